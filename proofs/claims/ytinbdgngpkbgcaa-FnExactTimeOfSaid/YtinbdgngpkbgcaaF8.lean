-- Written for this claim by the kit's print.py out of the translation, called by wip/tools/fprint.py. Lean checks it.
import Derived.Test.YtinbdgngpkbgcaaF0
import Derived.Test.YtinbdgngpkbgcaaF7
namespace Go.Proofs.Ytinbdgngpkbgcaa.F
open Go.RowKit Go.Proofs.YtinbdgngpkbgcaaW.PrintWords Go.Proofs.YtinbdgngpkbgcaaW.PrintLast Go.Proofs.YtinbdgngpkbgcaaW.PrintMore
attribute [local go_sem] max2_int min2_int max_two min_two max_three min_three max_four min_four   -- for this text's walks alone
set_option linter.unusedVariables false
set_option linter.unusedSimpArgs false

/-! ### impl_IsTempo: function 62 -/
def impl_IsTempo.l0 : Nat → List (S74) → List (S74) → Int → Int → Option (Bool)
  | 0, _, _, _, _ => none
  | k + 1, x0, x5, x6, x7 => if x7 < x6 then (if 0 ≤ x7 then (if x7 < (x5.length : Int) then (if x7 = 0 then (if ((rd_T74 x5 x7).f0) = 0 then (if x7 > 0 then (if 0 ≤ (wrap64 (x7 - 1)) then (if (wrap64 (x7 - 1)) < (x0.length : Int) then (if ((rd_T74 x0 (wrap64 (x7 - 1))).f0) ≥ ((rd_T74 x5 x7).f0) then (some false) else (if ((rd_T74 x5 x7).f0) > 2000 then (some false) else ((impl_InRange.f ((rd_T74 x5 x7).f1) 20 300).bind fun t127 => (if t127 = true then (impl_IsTempo.l0 k x0 x5 x6 (wrap64 (x7 + 1))) else (some false))))) else (none)) else (none)) else (if ((rd_T74 x5 x7).f0) > 2000 then (some false) else ((impl_InRange.f ((rd_T74 x5 x7).f1) 20 300).bind fun t128 => (if t128 = true then (impl_IsTempo.l0 k x0 x5 x6 (wrap64 (x7 + 1))) else (some false))))) else (some false)) else (if x7 > 0 then (if 0 ≤ (wrap64 (x7 - 1)) then (if (wrap64 (x7 - 1)) < (x0.length : Int) then (if ((rd_T74 x0 (wrap64 (x7 - 1))).f0) ≥ ((rd_T74 x5 x7).f0) then (some false) else (if ((rd_T74 x5 x7).f0) > 2000 then (some false) else ((impl_InRange.f ((rd_T74 x5 x7).f1) 20 300).bind fun t130 => (if t130 = true then (impl_IsTempo.l0 k x0 x5 x6 (wrap64 (x7 + 1))) else (some false))))) else (none)) else (none)) else (if ((rd_T74 x5 x7).f0) > 2000 then (some false) else ((impl_InRange.f ((rd_T74 x5 x7).f1) 20 300).bind fun t131 => (if t131 = true then (impl_IsTempo.l0 k x0 x5 x6 (wrap64 (x7 + 1))) else (some false)))))) else (none)) else (none)) else ((impl_InRange.f (x0.length : Int) 1 8).bind fun t132 => (some t132))
def impl_IsTempo.f (k : Nat) (l0 : List (S74)) : Option (Bool) := impl_IsTempo.l0 k l0 l0 (l0.length : Int) 0
theorem impl_IsTempo.mono_l : ∀ k, (∀ y0 y1 y2 y3, LeO (impl_IsTempo.l0 k y0 y1 y2 y3) (impl_IsTempo.l0 (k + 1) y0 y1 y2 y3))
  | 0 => fun _ _ _ _ r h => by simp [impl_IsTempo.l0] at h
  | k + 1 => by
    have ih0 := impl_IsTempo.mono_l k
    · intro y0 y1 y2 y3
      unfold impl_IsTempo.l0
      repeat' first
      | (with_reducible exact ih0 _ _ _ _)
      | (with_reducible exact LeO.refl _)
      | (with_reducible exact LeO.none _)
      | (with_reducible refine LeO.ite ?_ ?_)
      | (with_reducible refine LeO.bind ?_ (fun _ => ?_))
      | exact ih0 _ _ _ _
      | exact LeO.none _
      | refine LeO.ite ?_ ?_
      | refine LeO.bind ?_ (fun _ => ?_)
theorem impl_IsTempo.mono : ∀ a0 k, LeO (impl_IsTempo.f k a0) (impl_IsTempo.f (k + 1) a0) := by
  intro a0 k
  have ih0 := impl_IsTempo.mono_l k
  unfold impl_IsTempo.f
  repeat' first
      | (with_reducible exact ih0 _ _ _ _)
      | (with_reducible exact LeO.refl _)
      | (with_reducible exact LeO.none _)
      | (with_reducible refine LeO.ite ?_ ?_)
      | (with_reducible refine LeO.bind ?_ (fun _ => ?_))
      | exact ih0 _ _ _ _
      | exact LeO.none _
      | refine LeO.ite ?_ ?_
      | refine LeO.bind ?_ (fun _ => ?_)
def impl_IsTempo.T4 : Bool × List (List Nat × List Nat) := (true, [([], []), ([0], [0]), ([1], [1]), ([2], [2]), ([3, 2], [2, 3]), ([4, 2], [2, 4]), ([2, 5], [2, 5]), ([6, 2], [6]), ([7], [7]), ([8, 7], [7, 8]), ([9, 7, 7], [7, 9]), ([10], [10]), ([10], [10]), ([12, 10], [10, 12]), ([11, 13, 10], [10, 11, 13]), ([14, 10], [10, 14]), ([15, 10], [10, 15]), ([10], [10]), ([17, 10], [10, 17]), ([16, 18, 10], [10, 16, 18]), ([10, 19, 7], [7, 10, 19]), ([7, 20], [7, 20]), ([21, 10], [21]), ([22], [22]), ([23, 22], [22, 23]), ([24, 22], [22, 24]), ([22, 25], [22, 25]), ([26, 22], [26]), ([27], [27]), ([28, 27], [27, 28]), ([29, 27, 27], [27, 29]), ([30, 27], [27, 30]), ([27, 31], [27, 31])])
def impl_IsTempo.B4 : List Nat := [0, 1, 3, 7, 15, 31, 63, 127, 255, 511, 1023, 2047, 2047, 6143, 16383, 32767, 65535, 2047, 133119, 524287, 1048575, 2097151, 4194303, 8388607, 16777215, 33554431, 67108863, 134217727, 268435455, 536870911, 1073741823, 2147483647, 4294967295]
theorem impl_IsTempo.tab4 : rtab .any (opsOf Try.f62 4) = impl_IsTempo.T4 := by kernel_rfl
theorem impl_IsTempo.bits4 : waitsOk impl_IsTempo.T4.2 impl_IsTempo.B4 = true := by kernel_rfl
set_option maxHeartbeats 8000000 in
set_option maxRecDepth 100000 in
theorem impl_IsTempo.calls (k : Nat) (A0 : Option Addr) (c0 : Nat) (l0 : List (S74)) (r : Bool) (w : World) (hr0 : Kd.C k74 w A0 l0.length l0) (hc0 : l0.length ≤ c0) (h : impl_IsTempo.f k l0 = some r) :
    Calls Try.prog 62 #[.slice A0 l0.length c0] w fun e w' => e = .returned (.bool r) ∧ Below w.heap.size w w' := by
  have hu74 := Try.underlying74
  have HR0 := Aside0.mk hr0
  have HC0 := Aside0.mk hc0
  clear hr0 hc0
  have HB := Aside0.mk (Below.refl w.heap.size w)
  have H : (impl_IsTempo.l0 k l0 l0 (l0.length : Int) 0) = some r := h
  clear h
  have H' := Aside0.mk H
  clear H
  go_enter Try.func62, Try.ntmps62
  go_wp2
  go_loopg [7] k (fun kq v7 w' => ∃ (x7_1 : Int), v7 = .int .i64 x7_1 ∧ Aside0 (impl_IsTempo.l0 kq l0 l0 (l0.length : Int) x7_1 = some r) ∧ Aside0 (kq ≤ k) ∧ Aside0 (Below w.heap.size w w'))
  case atStart => exact ⟨(0), (by first | rfl | (simp; done) | (simp [*]; done)), H', ⟨Nat.le_refl _⟩, ⟨by repeat (first | (with_reducible first | exact HB.out | apply below_alloc | apply pw_below_drewN | apply below_drew1) | exact HB.out)⟩⟩
  case round =>
    clear H'
    obtain ⟨x7_1, rfl, HA, HK1, HB⟩ := hrel
    cases gk with
    | zero => exact absurd HA.out (by simp [impl_IsTempo.l0])
    | succ k1 =>
      have H := HA.out
      clear HA
      simp only [impl_IsTempo.l0] at H
      by_cases c2 : x7_1 < (l0.length : Int)
      · rw [if_pos c2] at H
        have c2b0 : decide (x7_1 < (l0.length : Int)) = true := decide_eq_true c2
        clear c2
        by_cases c3 : 0 ≤ x7_1
        · rw [if_pos c3] at H
          have c3b0 : decide (0 ≤ x7_1) = true := decide_eq_true c3
          clear c3
          by_cases c4 : x7_1 < (l0.length : Int)
          · rw [if_pos c4] at H
            have c4b0 : decide (x7_1 < (l0.length : Int)) = true := decide_eq_true c4
            clear c4
            by_cases c5 : x7_1 = 0
            · rw [if_pos c5] at H
              have c5b0 : (x7_1 == 0) = true := beq_iff_eq.mpr c5
              have c5b1 : (x7_1 != 0) = false := bne_eq_false_iff_eq.mpr c5
              clear c5
              by_cases c6 : ((rd_T74 l0 x7_1).f0) = 0
              · rw [if_pos c6] at H
                have c6b0 : (((rd_T74 l0 x7_1).f0) == 0) = true := beq_iff_eq.mpr c6
                have c6b1 : (((rd_T74 l0 x7_1).f0) != 0) = false := bne_eq_false_iff_eq.mpr c6
                clear c6
                by_cases c7 : x7_1 > 0
                · rw [if_pos c7] at H
                  have c7b0 : decide (0 < x7_1) = true := decide_eq_true c7
                  clear c7
                  obtain ⟨ji8, hji8⟩ : ∃ j_ : Int, (wrap64 (x7_1 - 1)) = j_ := ⟨_, rfl⟩
                  replace H : (if 0 ≤ (ji8) then (if (ji8) < (l0.length : Int) then (if ((rd_T74 l0 (ji8)).f0) ≥ ((rd_T74 l0 x7_1).f0) then (some false) else (if ((rd_T74 l0 x7_1).f0) > 2000 then (some false) else ((impl_InRange.f ((rd_T74 l0 x7_1).f1) 20 300).bind fun t127 => (if t127 = true then (impl_IsTempo.l0 k1 l0 l0 (l0.length : Int) (wrap64 (x7_1 + 1))) else (some false))))) else (none)) else (none)) = some r := by first | (rw [hji8] at H; exact H) | (simp only [hji8] at H ⊢; exact H)
                  have hji8w : (IntKind.i64.wrap (x7_1 - 1)) = ji8 := (i64_w _).trans hji8
                  by_cases c9 : 0 ≤ (ji8)
                  · rw [if_pos c9] at H
                    have c9b0 : decide (0 ≤ (ji8)) = true := decide_eq_true c9
                    clear c9
                    by_cases c10 : (ji8) < (l0.length : Int)
                    · rw [if_pos c10] at H
                      have c10b0 : decide ((ji8) < (l0.length : Int)) = true := decide_eq_true c10
                      clear c10
                      by_cases c11 : ((rd_T74 l0 (ji8)).f0) ≥ ((rd_T74 l0 x7_1).f0)
                      · rw [if_pos c11] at H
                        have c11b0 : decide (((rd_T74 l0 x7_1).f0) ≤ ((rd_T74 l0 (ji8)).f0)) = true := decide_eq_true c11
                        clear c11
                        obtain rfl := Option.some.inj H
                        have p124 : 0 ≤ (x7_1 : Int) := of_decide_eq_true (by first | (with_reducible assumption) | assumption)
                        have q124 : x7_1 < (l0.length : Int) := of_decide_eq_true (by first | (with_reducible assumption) | assumption)
                        obtain ⟨ad124, e124, hx124_0, hx124_1⟩ := at_T74 HR0.out x7_1 p124 q124
                        cases e124
                        replace hx124_0 := (HB.out.cell (World.block_lt_of_cell? w _ hx124_0)).trans hx124_0
                        replace hx124_1 := (HB.out.cell (World.block_lt_of_cell? w _ hx124_1)).trans hx124_1
                        replace p124 := eq_true p124
                        replace q124 := eq_true q124
                        try go_wp2_with (first | ((with_reducible refine gate_dst (N := 4) rfl ?_); refine box_event ?hg (N := 4) ?hd (cs := #[.int .i64 0, .int .i64 0]) (t := 74) ?hr ?_; (case hd => rfl); (case hg => rfl); (case hr => first | (go_simp; done) | (go_simp; rfl)); intro gb125 hg w12 hbox hb; have n0_ := Aside0.mk (below_step (by repeat (first | (with_reducible first | exact HB.out | apply below_alloc | apply pw_below_drewN | apply below_drew1) | exact HB.out)) hb); have n1_ := Aside0.mk (hbox); have n2_ := Aside0.mk ((by rw [hg]; exact (below_size (by repeat (first | (with_reducible first | exact HB.out | apply below_alloc | apply pw_below_drewN | apply below_drew1) | exact HB.out))) : w.heap.size ≤ gb125)); have n3_ := Aside0.mk ((by rw [hg]; exact (below_size (by repeat (first | (with_reducible first | exact HB.out | apply below_alloc | apply pw_below_drewN | apply below_drew1) | exact HB.out))) : w.heap.size ≤ gb125)); clear HB; have HB := n0_; have BK125 := n1_; have GW125 := n2_; have GE125 := n3_; clear n0_ n1_ n2_ n3_; clear hb hbox hg; have hcz13_0 : w12.cell? ⟨gb125, 0, none⟩ = some (.int .i64 0) := (blk_cell BK125.out 0).trans rfl; have hcz13_1 : w12.cell? ⟨gb125, 1, none⟩ = some (.int .i64 0) := (blk_cell BK125.out 1).trans rfl; have hfz13_0 := blk_frozen BK125.out 0; have hfz13_1 := blk_frozen BK125.out 1))
                        have n0_ : Aside0 (((w12.setCell ⟨gb125, 0, none⟩ (.int .i64 ((rd_T74 l0 x7_1).f0))).setCell ⟨gb125, 1, none⟩ (.int .i64 ((rd_T74 l0 x7_1).f1))).heap[gb125]? = some (.cells #[.int .i64 ((rd_T74 l0 x7_1).f0), .int .i64 ((rd_T74 l0 x7_1).f1)] 74 (0, 0))) := ⟨by (with_reducible repeat (first | refine blk_drewN ?_ _ | refine blk_drew ?_ | refine blk_alloc ?_ _)); refine blk_put (cs := #[.int .i64 ((rd_T74 l0 x7_1).f0), .int .i64 0]) ?_ 1 _ rfl; (with_reducible repeat (first | refine blk_drewN ?_ _ | refine blk_drew ?_ | refine blk_alloc ?_ _)); refine blk_put (cs := #[.int .i64 0, .int .i64 0]) ?_ 0 _ rfl; (with_reducible repeat (first | refine blk_drewN ?_ _ | refine blk_drew ?_ | refine blk_alloc ?_ _)); exact BK125.out⟩
                        have n1_ : Aside0 (Below w.heap.size w ((w12.setCell ⟨gb125, 0, none⟩ (.int .i64 ((rd_T74 l0 x7_1).f0))).setCell ⟨gb125, 1, none⟩ (.int .i64 ((rd_T74 l0 x7_1).f1)))) := ⟨by repeat (first | (with_reducible first | exact HB.out | apply below_alloc | apply pw_below_drewN | apply below_drew1 | refine below_set ?_ GE125.out) | exact HB.out)⟩
                        (try clear BK125)
                        (try clear HB)
                        generalize ((w12.setCell ⟨gb125, 0, none⟩ (.int .i64 ((rd_T74 l0 x7_1).f0))).setCell ⟨gb125, 1, none⟩ (.int .i64 ((rd_T74 l0 x7_1).f1))) = w14 at n0_ n1_ ⊢
                        have BK125 := n0_
                        have HB := n1_
                        clear n0_ n1_
                        have n0_ := Aside0.mk (blk_drew BK125.out)
                        have n1_ := Aside0.mk (below_drew1 HB.out)
                        clear BK125
                        clear HB
                        have BK125 := n0_
                        have HB := n1_
                        clear n0_ n1_
                        have p126 : 0 ≤ ((ji8) : Int) := of_decide_eq_true (by first | (with_reducible assumption) | assumption)
                        have q126 : (ji8) < (l0.length : Int) := of_decide_eq_true (by first | (with_reducible assumption) | assumption)
                        obtain ⟨ad126, e126, hx126_0, hx126_1⟩ := at_T74 HR0.out (ji8) p126 q126
                        have hw126_1 := hx126_1
                        have hw126_0 := hx126_0
                        obtain rfl : ad124 = ad126 := (by injection e126)
                        replace hx126_0 := (HB.out.cell (World.block_lt_of_cell? w _ hx126_0)).trans hx126_0
                        replace hx126_1 := (HB.out.cell (World.block_lt_of_cell? w _ hx126_1)).trans hx126_1
                        replace p126 := eq_true p126
                        replace q126 := eq_true q126
                        have hq0_ : w14.cell? ⟨gb125, 0, none⟩ = some (.int .i64 ((rd_T74 l0 x7_1).f0)) := (blk_cell BK125.out 0).trans rfl
                        have hq1_ : w14.cell? ⟨gb125, 1, none⟩ = some (.int .i64 ((rd_T74 l0 x7_1).f1)) := (blk_cell BK125.out 1).trans rfl
                        have hq2_ : w14.cell? (ad124.add (((ji8)).toNat * 2)) = some (.int .i64 ((rd_T74 l0 (ji8)).f0)) := ((HB.out.cell (World.block_lt_of_cell? w _ hw126_0)).trans hw126_0)
                        have hq3_ : w14.cell? ⟨(ad124.add (((ji8)).toNat * 2)).block, (ad124.add (((ji8)).toNat * 2)).off + 1, none⟩ = some (.int .i64 ((rd_T74 l0 (ji8)).f1)) := ((HB.out.cell (World.block_lt_of_cell? w _ hw126_1)).trans hw126_1)
                        go_quiet (fail)
                        have nBK125_ := Aside0.mk (blk_drewN (w := w14) BK125.out nq)
                        have nHB_ := Aside0.mk (pw_below_drewN (W := w14) ⟨HB.out.os, HB.out.tape, HB.out.output, HB.out.size, HB.out.block⟩ nq)
                        have nhx126_0_ : (w14.drewN nq).cell? _ = _ := hx126_0
                        have nhx126_1_ : (w14.drewN nq).cell? _ = _ := hx126_1
                        clear BK125 HB hx126_0 hx126_1 hq0_ hq1_ hq2_ hq3_
                        have BK125 := nBK125_
                        have HB := nHB_
                        have hx126_0 := nhx126_0_
                        have hx126_1 := nhx126_1_
                        clear nBK125_ nHB_ nhx126_0_ nhx126_1_
                        generalize w14.drewN nq = w15 at BK125 HB hx126_0 hx126_1 ⊢
                        try go_wp2
                        go_ret
                        exact ⟨by first | rfl | (simp [errW_none, errW_some] <;> rfl) | (simp only [← hji8]; first | rfl | (simp [errW_none, errW_some] <;> rfl)) | (simp [*, errW_none, errW_some] <;> rfl), by repeat (first | (with_reducible first | exact HB.out | apply below_alloc | apply pw_below_drewN | apply below_drew1 | refine below_set ?_ GE125.out) | exact HB.out)⟩
                      · rw [if_neg c11] at H
                        have c11b0 : decide (((rd_T74 l0 x7_1).f0) ≤ ((rd_T74 l0 (ji8)).f0)) = false := decide_eq_false c11
                        clear c11
                        by_cases c16 : ((rd_T74 l0 x7_1).f0) > 2000
                        · rw [if_pos c16] at H
                          have c16b0 : decide (2000 < ((rd_T74 l0 x7_1).f0)) = true := decide_eq_true c16
                          clear c16
                          obtain rfl := Option.some.inj H
                          have p124 : 0 ≤ (x7_1 : Int) := of_decide_eq_true (by first | (with_reducible assumption) | assumption)
                          have q124 : x7_1 < (l0.length : Int) := of_decide_eq_true (by first | (with_reducible assumption) | assumption)
                          obtain ⟨ad124, e124, hx124_0, hx124_1⟩ := at_T74 HR0.out x7_1 p124 q124
                          cases e124
                          replace hx124_0 := (HB.out.cell (World.block_lt_of_cell? w _ hx124_0)).trans hx124_0
                          replace hx124_1 := (HB.out.cell (World.block_lt_of_cell? w _ hx124_1)).trans hx124_1
                          replace p124 := eq_true p124
                          replace q124 := eq_true q124
                          try go_wp2_with (first | ((with_reducible refine gate_dst (N := 4) rfl ?_); refine box_event ?hg (N := 4) ?hd (cs := #[.int .i64 0, .int .i64 0]) (t := 74) ?hr ?_; (case hd => rfl); (case hg => rfl); (case hr => first | (go_simp; done) | (go_simp; rfl)); intro gb125 hg w17 hbox hb; have n0_ := Aside0.mk (below_step (by repeat (first | (with_reducible first | exact HB.out | apply below_alloc | apply pw_below_drewN | apply below_drew1) | exact HB.out)) hb); have n1_ := Aside0.mk (hbox); have n2_ := Aside0.mk ((by rw [hg]; exact (below_size (by repeat (first | (with_reducible first | exact HB.out | apply below_alloc | apply pw_below_drewN | apply below_drew1) | exact HB.out))) : w.heap.size ≤ gb125)); have n3_ := Aside0.mk ((by rw [hg]; exact (below_size (by repeat (first | (with_reducible first | exact HB.out | apply below_alloc | apply pw_below_drewN | apply below_drew1) | exact HB.out))) : w.heap.size ≤ gb125)); clear HB; have HB := n0_; have BK125 := n1_; have GW125 := n2_; have GE125 := n3_; clear n0_ n1_ n2_ n3_; clear hb hbox hg; have hcz18_0 : w17.cell? ⟨gb125, 0, none⟩ = some (.int .i64 0) := (blk_cell BK125.out 0).trans rfl; have hcz18_1 : w17.cell? ⟨gb125, 1, none⟩ = some (.int .i64 0) := (blk_cell BK125.out 1).trans rfl; have hfz18_0 := blk_frozen BK125.out 0; have hfz18_1 := blk_frozen BK125.out 1))
                          have n0_ : Aside0 (((w17.setCell ⟨gb125, 0, none⟩ (.int .i64 ((rd_T74 l0 x7_1).f0))).setCell ⟨gb125, 1, none⟩ (.int .i64 ((rd_T74 l0 x7_1).f1))).heap[gb125]? = some (.cells #[.int .i64 ((rd_T74 l0 x7_1).f0), .int .i64 ((rd_T74 l0 x7_1).f1)] 74 (0, 0))) := ⟨by (with_reducible repeat (first | refine blk_drewN ?_ _ | refine blk_drew ?_ | refine blk_alloc ?_ _)); refine blk_put (cs := #[.int .i64 ((rd_T74 l0 x7_1).f0), .int .i64 0]) ?_ 1 _ rfl; (with_reducible repeat (first | refine blk_drewN ?_ _ | refine blk_drew ?_ | refine blk_alloc ?_ _)); refine blk_put (cs := #[.int .i64 0, .int .i64 0]) ?_ 0 _ rfl; (with_reducible repeat (first | refine blk_drewN ?_ _ | refine blk_drew ?_ | refine blk_alloc ?_ _)); exact BK125.out⟩
                          have n1_ : Aside0 (Below w.heap.size w ((w17.setCell ⟨gb125, 0, none⟩ (.int .i64 ((rd_T74 l0 x7_1).f0))).setCell ⟨gb125, 1, none⟩ (.int .i64 ((rd_T74 l0 x7_1).f1)))) := ⟨by repeat (first | (with_reducible first | exact HB.out | apply below_alloc | apply pw_below_drewN | apply below_drew1 | refine below_set ?_ GE125.out) | exact HB.out)⟩
                          (try clear BK125)
                          (try clear HB)
                          generalize ((w17.setCell ⟨gb125, 0, none⟩ (.int .i64 ((rd_T74 l0 x7_1).f0))).setCell ⟨gb125, 1, none⟩ (.int .i64 ((rd_T74 l0 x7_1).f1))) = w19 at n0_ n1_ ⊢
                          have BK125 := n0_
                          have HB := n1_
                          clear n0_ n1_
                          have n0_ := Aside0.mk (blk_drew BK125.out)
                          have n1_ := Aside0.mk (below_drew1 HB.out)
                          clear BK125
                          clear HB
                          have BK125 := n0_
                          have HB := n1_
                          clear n0_ n1_
                          have p126 : 0 ≤ ((ji8) : Int) := of_decide_eq_true (by first | (with_reducible assumption) | assumption)
                          have q126 : (ji8) < (l0.length : Int) := of_decide_eq_true (by first | (with_reducible assumption) | assumption)
                          obtain ⟨ad126, e126, hx126_0, hx126_1⟩ := at_T74 HR0.out (ji8) p126 q126
                          have hw126_1 := hx126_1
                          have hw126_0 := hx126_0
                          obtain rfl : ad124 = ad126 := (by injection e126)
                          replace hx126_0 := (HB.out.cell (World.block_lt_of_cell? w _ hx126_0)).trans hx126_0
                          replace hx126_1 := (HB.out.cell (World.block_lt_of_cell? w _ hx126_1)).trans hx126_1
                          replace p126 := eq_true p126
                          replace q126 := eq_true q126
                          have hq0_ : w19.cell? ⟨gb125, 0, none⟩ = some (.int .i64 ((rd_T74 l0 x7_1).f0)) := (blk_cell BK125.out 0).trans rfl
                          have hq1_ : w19.cell? ⟨gb125, 1, none⟩ = some (.int .i64 ((rd_T74 l0 x7_1).f1)) := (blk_cell BK125.out 1).trans rfl
                          have hq2_ : w19.cell? (ad124.add (((ji8)).toNat * 2)) = some (.int .i64 ((rd_T74 l0 (ji8)).f0)) := ((HB.out.cell (World.block_lt_of_cell? w _ hw126_0)).trans hw126_0)
                          have hq3_ : w19.cell? ⟨(ad124.add (((ji8)).toNat * 2)).block, (ad124.add (((ji8)).toNat * 2)).off + 1, none⟩ = some (.int .i64 ((rd_T74 l0 (ji8)).f1)) := ((HB.out.cell (World.block_lt_of_cell? w _ hw126_1)).trans hw126_1)
                          go_quiet (fail)
                          have nBK125_ := Aside0.mk (blk_drewN (w := w19) BK125.out nq)
                          have nHB_ := Aside0.mk (pw_below_drewN (W := w19) ⟨HB.out.os, HB.out.tape, HB.out.output, HB.out.size, HB.out.block⟩ nq)
                          have nhx126_0_ : (w19.drewN nq).cell? _ = _ := hx126_0
                          have nhx126_1_ : (w19.drewN nq).cell? _ = _ := hx126_1
                          clear BK125 HB hx126_0 hx126_1 hq0_ hq1_ hq2_ hq3_
                          have BK125 := nBK125_
                          have HB := nHB_
                          have hx126_0 := nhx126_0_
                          have hx126_1 := nhx126_1_
                          clear nBK125_ nHB_ nhx126_0_ nhx126_1_
                          generalize w19.drewN nq = w20 at BK125 HB hx126_0 hx126_1 ⊢
                          try go_wp2
                          go_ret
                          exact ⟨by first | rfl | (simp [errW_none, errW_some] <;> rfl) | (simp only [← hji8]; first | rfl | (simp [errW_none, errW_some] <;> rfl)) | (simp [*, errW_none, errW_some] <;> rfl), by repeat (first | (with_reducible first | exact HB.out | apply below_alloc | apply pw_below_drewN | apply below_drew1 | refine below_set ?_ GE125.out) | exact HB.out)⟩
                        · rw [if_neg c16] at H
                          have c16b0 : decide (2000 < ((rd_T74 l0 x7_1).f0)) = false := decide_eq_false c16
                          clear c16
                          replace H := Option.bind_eq_some_iff.mp H
                          obtain ⟨t127, A210, H⟩ := H
                          replace H : (if t127 = true then (impl_IsTempo.l0 k1 l0 l0 (l0.length : Int) (wrap64 (x7_1 + 1))) else (some false)) = some r := H
                          have A21 := Aside0.mk A210
                          clear A210
                          by_cases c22 : t127 = true
                          · subst c22
                            have H1 : (impl_IsTempo.l0 k1 l0 l0 (l0.length : Int) (wrap64 (x7_1 + 1))) = some r := by rw [if_pos rfl] at H; exact H
                            clear H
                            have H := H1
                            clear H1
                            have H' := Aside0.mk H
                            clear H
                            have p124 : 0 ≤ (x7_1 : Int) := of_decide_eq_true (by first | (with_reducible assumption) | assumption)
                            have q124 : x7_1 < (l0.length : Int) := of_decide_eq_true (by first | (with_reducible assumption) | assumption)
                            obtain ⟨ad124, e124, hx124_0, hx124_1⟩ := at_T74 HR0.out x7_1 p124 q124
                            cases e124
                            replace hx124_0 := (HB.out.cell (World.block_lt_of_cell? w _ hx124_0)).trans hx124_0
                            replace hx124_1 := (HB.out.cell (World.block_lt_of_cell? w _ hx124_1)).trans hx124_1
                            replace p124 := eq_true p124
                            replace q124 := eq_true q124
                            try go_wp2_with (first | ((with_reducible refine gate_dst (N := 4) rfl ?_); refine box_event ?hg (N := 4) ?hd (cs := #[.int .i64 0, .int .i64 0]) (t := 74) ?hr ?_; (case hd => rfl); (case hg => rfl); (case hr => first | (go_simp; done) | (go_simp; rfl)); intro gb125 hg w23 hbox hb; have n0_ := Aside0.mk (below_step (by repeat (first | (with_reducible first | exact HB.out | apply below_alloc | apply pw_below_drewN | apply below_drew1) | exact HB.out)) hb); have n1_ := Aside0.mk (hbox); have n2_ := Aside0.mk ((by rw [hg]; exact (below_size (by repeat (first | (with_reducible first | exact HB.out | apply below_alloc | apply pw_below_drewN | apply below_drew1) | exact HB.out))) : w.heap.size ≤ gb125)); have n3_ := Aside0.mk ((by rw [hg]; exact (below_size (by repeat (first | (with_reducible first | exact HB.out | apply below_alloc | apply pw_below_drewN | apply below_drew1) | exact HB.out))) : w.heap.size ≤ gb125)); clear HB; have HB := n0_; have BK125 := n1_; have GW125 := n2_; have GE125 := n3_; clear n0_ n1_ n2_ n3_; clear hb hbox hg; have hcz24_0 : w23.cell? ⟨gb125, 0, none⟩ = some (.int .i64 0) := (blk_cell BK125.out 0).trans rfl; have hcz24_1 : w23.cell? ⟨gb125, 1, none⟩ = some (.int .i64 0) := (blk_cell BK125.out 1).trans rfl; have hfz24_0 := blk_frozen BK125.out 0; have hfz24_1 := blk_frozen BK125.out 1))
                            have n0_ : Aside0 (((w23.setCell ⟨gb125, 0, none⟩ (.int .i64 ((rd_T74 l0 x7_1).f0))).setCell ⟨gb125, 1, none⟩ (.int .i64 ((rd_T74 l0 x7_1).f1))).heap[gb125]? = some (.cells #[.int .i64 ((rd_T74 l0 x7_1).f0), .int .i64 ((rd_T74 l0 x7_1).f1)] 74 (0, 0))) := ⟨by (with_reducible repeat (first | refine blk_drewN ?_ _ | refine blk_drew ?_ | refine blk_alloc ?_ _)); refine blk_put (cs := #[.int .i64 ((rd_T74 l0 x7_1).f0), .int .i64 0]) ?_ 1 _ rfl; (with_reducible repeat (first | refine blk_drewN ?_ _ | refine blk_drew ?_ | refine blk_alloc ?_ _)); refine blk_put (cs := #[.int .i64 0, .int .i64 0]) ?_ 0 _ rfl; (with_reducible repeat (first | refine blk_drewN ?_ _ | refine blk_drew ?_ | refine blk_alloc ?_ _)); exact BK125.out⟩
                            have n1_ : Aside0 (Below w.heap.size w ((w23.setCell ⟨gb125, 0, none⟩ (.int .i64 ((rd_T74 l0 x7_1).f0))).setCell ⟨gb125, 1, none⟩ (.int .i64 ((rd_T74 l0 x7_1).f1)))) := ⟨by repeat (first | (with_reducible first | exact HB.out | apply below_alloc | apply pw_below_drewN | apply below_drew1 | refine below_set ?_ GE125.out) | exact HB.out)⟩
                            (try clear BK125)
                            (try clear HB)
                            generalize ((w23.setCell ⟨gb125, 0, none⟩ (.int .i64 ((rd_T74 l0 x7_1).f0))).setCell ⟨gb125, 1, none⟩ (.int .i64 ((rd_T74 l0 x7_1).f1))) = w25 at n0_ n1_ ⊢
                            have BK125 := n0_
                            have HB := n1_
                            clear n0_ n1_
                            have n0_ := Aside0.mk (blk_drew BK125.out)
                            have n1_ := Aside0.mk (below_drew1 HB.out)
                            clear BK125
                            clear HB
                            have BK125 := n0_
                            have HB := n1_
                            clear n0_ n1_
                            have p126 : 0 ≤ ((ji8) : Int) := of_decide_eq_true (by first | (with_reducible assumption) | assumption)
                            have q126 : (ji8) < (l0.length : Int) := of_decide_eq_true (by first | (with_reducible assumption) | assumption)
                            obtain ⟨ad126, e126, hx126_0, hx126_1⟩ := at_T74 HR0.out (ji8) p126 q126
                            have hw126_1 := hx126_1
                            have hw126_0 := hx126_0
                            obtain rfl : ad124 = ad126 := (by injection e126)
                            replace hx126_0 := (HB.out.cell (World.block_lt_of_cell? w _ hx126_0)).trans hx126_0
                            replace hx126_1 := (HB.out.cell (World.block_lt_of_cell? w _ hx126_1)).trans hx126_1
                            replace p126 := eq_true p126
                            replace q126 := eq_true q126
                            have hq0_ : w25.cell? ⟨gb125, 0, none⟩ = some (.int .i64 ((rd_T74 l0 x7_1).f0)) := (blk_cell BK125.out 0).trans rfl
                            have hq1_ : w25.cell? ⟨gb125, 1, none⟩ = some (.int .i64 ((rd_T74 l0 x7_1).f1)) := (blk_cell BK125.out 1).trans rfl
                            have hq2_ : w25.cell? (ad124.add (((ji8)).toNat * 2)) = some (.int .i64 ((rd_T74 l0 (ji8)).f0)) := ((HB.out.cell (World.block_lt_of_cell? w _ hw126_0)).trans hw126_0)
                            have hq3_ : w25.cell? ⟨(ad124.add (((ji8)).toNat * 2)).block, (ad124.add (((ji8)).toNat * 2)).off + 1, none⟩ = some (.int .i64 ((rd_T74 l0 (ji8)).f1)) := ((HB.out.cell (World.block_lt_of_cell? w _ hw126_1)).trans hw126_1)
                            go_quiet ((first | (go_at_call 66; apply Calls.quiet_of; ((with_reducible refine (impl_InRange.calls ((rd_T74 l0 x7_1).f1) 20 300 true _ A21.out).mono ?_); exact fun _ _ h_ => ⟨h_.1, h_.2.out⟩))))
                            have nBK125_ := Aside0.mk (blk_drewN (w := w25) BK125.out nq)
                            have nHB_ := Aside0.mk (pw_below_drewN (W := w25) ⟨HB.out.os, HB.out.tape, HB.out.output, HB.out.size, HB.out.block⟩ nq)
                            have nhx126_0_ : (w25.drewN nq).cell? _ = _ := hx126_0
                            have nhx126_1_ : (w25.drewN nq).cell? _ = _ := hx126_1
                            clear BK125 HB hx126_0 hx126_1 hq0_ hq1_ hq2_ hq3_
                            have BK125 := nBK125_
                            have HB := nHB_
                            have hx126_0 := nhx126_0_
                            have hx126_1 := nhx126_1_
                            clear nBK125_ nHB_ nhx126_0_ nhx126_1_
                            generalize w25.drewN nq = w26 at BK125 HB hx126_0 hx126_1 ⊢
                            try go_wp2
                            go_roundg k1
                            case measure => have := HK1.out; omega
                            case rel => exact ⟨(wrap64 (x7_1 + 1)), (by first | rfl | (simp; done) | (simp [*]; done)), H', ⟨by have := HK1.out; omega⟩, ⟨by repeat (first | (with_reducible first | exact HB.out | apply below_alloc | apply pw_below_drewN | apply below_drew1 | refine below_set ?_ GE125.out) | exact HB.out)⟩⟩
                          · replace c22 := Bool.eq_false_iff.mpr c22
                            subst c22
                            have H1 : (some false) = some r := by rw [if_neg (show ¬ (false = true) by decide)] at H; exact H
                            clear H
                            have H := H1
                            clear H1
                            obtain rfl := Option.some.inj H
                            have p124 : 0 ≤ (x7_1 : Int) := of_decide_eq_true (by first | (with_reducible assumption) | assumption)
                            have q124 : x7_1 < (l0.length : Int) := of_decide_eq_true (by first | (with_reducible assumption) | assumption)
                            obtain ⟨ad124, e124, hx124_0, hx124_1⟩ := at_T74 HR0.out x7_1 p124 q124
                            cases e124
                            replace hx124_0 := (HB.out.cell (World.block_lt_of_cell? w _ hx124_0)).trans hx124_0
                            replace hx124_1 := (HB.out.cell (World.block_lt_of_cell? w _ hx124_1)).trans hx124_1
                            replace p124 := eq_true p124
                            replace q124 := eq_true q124
                            try go_wp2_with (first | ((with_reducible refine gate_dst (N := 4) rfl ?_); refine box_event ?hg (N := 4) ?hd (cs := #[.int .i64 0, .int .i64 0]) (t := 74) ?hr ?_; (case hd => rfl); (case hg => rfl); (case hr => first | (go_simp; done) | (go_simp; rfl)); intro gb125 hg w27 hbox hb; have n0_ := Aside0.mk (below_step (by repeat (first | (with_reducible first | exact HB.out | apply below_alloc | apply pw_below_drewN | apply below_drew1) | exact HB.out)) hb); have n1_ := Aside0.mk (hbox); have n2_ := Aside0.mk ((by rw [hg]; exact (below_size (by repeat (first | (with_reducible first | exact HB.out | apply below_alloc | apply pw_below_drewN | apply below_drew1) | exact HB.out))) : w.heap.size ≤ gb125)); have n3_ := Aside0.mk ((by rw [hg]; exact (below_size (by repeat (first | (with_reducible first | exact HB.out | apply below_alloc | apply pw_below_drewN | apply below_drew1) | exact HB.out))) : w.heap.size ≤ gb125)); clear HB; have HB := n0_; have BK125 := n1_; have GW125 := n2_; have GE125 := n3_; clear n0_ n1_ n2_ n3_; clear hb hbox hg; have hcz28_0 : w27.cell? ⟨gb125, 0, none⟩ = some (.int .i64 0) := (blk_cell BK125.out 0).trans rfl; have hcz28_1 : w27.cell? ⟨gb125, 1, none⟩ = some (.int .i64 0) := (blk_cell BK125.out 1).trans rfl; have hfz28_0 := blk_frozen BK125.out 0; have hfz28_1 := blk_frozen BK125.out 1))
                            have n0_ : Aside0 (((w27.setCell ⟨gb125, 0, none⟩ (.int .i64 ((rd_T74 l0 x7_1).f0))).setCell ⟨gb125, 1, none⟩ (.int .i64 ((rd_T74 l0 x7_1).f1))).heap[gb125]? = some (.cells #[.int .i64 ((rd_T74 l0 x7_1).f0), .int .i64 ((rd_T74 l0 x7_1).f1)] 74 (0, 0))) := ⟨by (with_reducible repeat (first | refine blk_drewN ?_ _ | refine blk_drew ?_ | refine blk_alloc ?_ _)); refine blk_put (cs := #[.int .i64 ((rd_T74 l0 x7_1).f0), .int .i64 0]) ?_ 1 _ rfl; (with_reducible repeat (first | refine blk_drewN ?_ _ | refine blk_drew ?_ | refine blk_alloc ?_ _)); refine blk_put (cs := #[.int .i64 0, .int .i64 0]) ?_ 0 _ rfl; (with_reducible repeat (first | refine blk_drewN ?_ _ | refine blk_drew ?_ | refine blk_alloc ?_ _)); exact BK125.out⟩
                            have n1_ : Aside0 (Below w.heap.size w ((w27.setCell ⟨gb125, 0, none⟩ (.int .i64 ((rd_T74 l0 x7_1).f0))).setCell ⟨gb125, 1, none⟩ (.int .i64 ((rd_T74 l0 x7_1).f1)))) := ⟨by repeat (first | (with_reducible first | exact HB.out | apply below_alloc | apply pw_below_drewN | apply below_drew1 | refine below_set ?_ GE125.out) | exact HB.out)⟩
                            (try clear BK125)
                            (try clear HB)
                            generalize ((w27.setCell ⟨gb125, 0, none⟩ (.int .i64 ((rd_T74 l0 x7_1).f0))).setCell ⟨gb125, 1, none⟩ (.int .i64 ((rd_T74 l0 x7_1).f1))) = w29 at n0_ n1_ ⊢
                            have BK125 := n0_
                            have HB := n1_
                            clear n0_ n1_
                            have n0_ := Aside0.mk (blk_drew BK125.out)
                            have n1_ := Aside0.mk (below_drew1 HB.out)
                            clear BK125
                            clear HB
                            have BK125 := n0_
                            have HB := n1_
                            clear n0_ n1_
                            have p126 : 0 ≤ ((ji8) : Int) := of_decide_eq_true (by first | (with_reducible assumption) | assumption)
                            have q126 : (ji8) < (l0.length : Int) := of_decide_eq_true (by first | (with_reducible assumption) | assumption)
                            obtain ⟨ad126, e126, hx126_0, hx126_1⟩ := at_T74 HR0.out (ji8) p126 q126
                            have hw126_1 := hx126_1
                            have hw126_0 := hx126_0
                            obtain rfl : ad124 = ad126 := (by injection e126)
                            replace hx126_0 := (HB.out.cell (World.block_lt_of_cell? w _ hx126_0)).trans hx126_0
                            replace hx126_1 := (HB.out.cell (World.block_lt_of_cell? w _ hx126_1)).trans hx126_1
                            replace p126 := eq_true p126
                            replace q126 := eq_true q126
                            have hq0_ : w29.cell? ⟨gb125, 0, none⟩ = some (.int .i64 ((rd_T74 l0 x7_1).f0)) := (blk_cell BK125.out 0).trans rfl
                            have hq1_ : w29.cell? ⟨gb125, 1, none⟩ = some (.int .i64 ((rd_T74 l0 x7_1).f1)) := (blk_cell BK125.out 1).trans rfl
                            have hq2_ : w29.cell? (ad124.add (((ji8)).toNat * 2)) = some (.int .i64 ((rd_T74 l0 (ji8)).f0)) := ((HB.out.cell (World.block_lt_of_cell? w _ hw126_0)).trans hw126_0)
                            have hq3_ : w29.cell? ⟨(ad124.add (((ji8)).toNat * 2)).block, (ad124.add (((ji8)).toNat * 2)).off + 1, none⟩ = some (.int .i64 ((rd_T74 l0 (ji8)).f1)) := ((HB.out.cell (World.block_lt_of_cell? w _ hw126_1)).trans hw126_1)
                            go_quiet ((first | (go_at_call 66; apply Calls.quiet_of; ((with_reducible refine (impl_InRange.calls ((rd_T74 l0 x7_1).f1) 20 300 false _ A21.out).mono ?_); exact fun _ _ h_ => ⟨h_.1, h_.2.out⟩))))
                            have nBK125_ := Aside0.mk (blk_drewN (w := w29) BK125.out nq)
                            have nHB_ := Aside0.mk (pw_below_drewN (W := w29) ⟨HB.out.os, HB.out.tape, HB.out.output, HB.out.size, HB.out.block⟩ nq)
                            have nhx126_0_ : (w29.drewN nq).cell? _ = _ := hx126_0
                            have nhx126_1_ : (w29.drewN nq).cell? _ = _ := hx126_1
                            clear BK125 HB hx126_0 hx126_1 hq0_ hq1_ hq2_ hq3_
                            have BK125 := nBK125_
                            have HB := nHB_
                            have hx126_0 := nhx126_0_
                            have hx126_1 := nhx126_1_
                            clear nBK125_ nHB_ nhx126_0_ nhx126_1_
                            generalize w29.drewN nq = w30 at BK125 HB hx126_0 hx126_1 ⊢
                            try go_wp2
                            go_ret
                            exact ⟨by first | rfl | (simp [errW_none, errW_some] <;> rfl) | (simp only [← hji8]; first | rfl | (simp [errW_none, errW_some] <;> rfl)) | (simp [*, errW_none, errW_some] <;> rfl), by repeat (first | (with_reducible first | exact HB.out | apply below_alloc | apply pw_below_drewN | apply below_drew1 | refine below_set ?_ GE125.out) | exact HB.out)⟩
                    · rw [if_neg c10] at H
                      exact absurd H (by simp)
                  · rw [if_neg c9] at H
                    exact absurd H (by simp)
                · rw [if_neg c7] at H
                  have c7b0 : decide (0 < x7_1) = false := decide_eq_false c7
                  clear c7
                  by_cases c31 : ((rd_T74 l0 x7_1).f0) > 2000
                  · rw [if_pos c31] at H
                    have c31b0 : decide (2000 < ((rd_T74 l0 x7_1).f0)) = true := decide_eq_true c31
                    clear c31
                    obtain rfl := Option.some.inj H
                    have p124 : 0 ≤ (x7_1 : Int) := of_decide_eq_true (by first | (with_reducible assumption) | assumption)
                    have q124 : x7_1 < (l0.length : Int) := of_decide_eq_true (by first | (with_reducible assumption) | assumption)
                    obtain ⟨ad124, e124, hx124_0, hx124_1⟩ := at_T74 HR0.out x7_1 p124 q124
                    cases e124
                    replace hx124_0 := (HB.out.cell (World.block_lt_of_cell? w _ hx124_0)).trans hx124_0
                    replace hx124_1 := (HB.out.cell (World.block_lt_of_cell? w _ hx124_1)).trans hx124_1
                    replace p124 := eq_true p124
                    replace q124 := eq_true q124
                    try go_wp2_with (first | ((with_reducible refine gate_dst (N := 4) rfl ?_); refine box_event ?hg (N := 4) ?hd (cs := #[.int .i64 0, .int .i64 0]) (t := 74) ?hr ?_; (case hd => rfl); (case hg => rfl); (case hr => first | (go_simp; done) | (go_simp; rfl)); intro gb125 hg w32 hbox hb; have n0_ := Aside0.mk (below_step (by repeat (first | (with_reducible first | exact HB.out | apply below_alloc | apply pw_below_drewN | apply below_drew1) | exact HB.out)) hb); have n1_ := Aside0.mk (hbox); have n2_ := Aside0.mk ((by rw [hg]; exact (below_size (by repeat (first | (with_reducible first | exact HB.out | apply below_alloc | apply pw_below_drewN | apply below_drew1) | exact HB.out))) : w.heap.size ≤ gb125)); have n3_ := Aside0.mk ((by rw [hg]; exact (below_size (by repeat (first | (with_reducible first | exact HB.out | apply below_alloc | apply pw_below_drewN | apply below_drew1) | exact HB.out))) : w.heap.size ≤ gb125)); clear HB; have HB := n0_; have BK125 := n1_; have GW125 := n2_; have GE125 := n3_; clear n0_ n1_ n2_ n3_; clear hb hbox hg; have hcz33_0 : w32.cell? ⟨gb125, 0, none⟩ = some (.int .i64 0) := (blk_cell BK125.out 0).trans rfl; have hcz33_1 : w32.cell? ⟨gb125, 1, none⟩ = some (.int .i64 0) := (blk_cell BK125.out 1).trans rfl; have hfz33_0 := blk_frozen BK125.out 0; have hfz33_1 := blk_frozen BK125.out 1))
                    have n0_ : Aside0 (((w32.setCell ⟨gb125, 0, none⟩ (.int .i64 ((rd_T74 l0 x7_1).f0))).setCell ⟨gb125, 1, none⟩ (.int .i64 ((rd_T74 l0 x7_1).f1))).heap[gb125]? = some (.cells #[.int .i64 ((rd_T74 l0 x7_1).f0), .int .i64 ((rd_T74 l0 x7_1).f1)] 74 (0, 0))) := ⟨by (with_reducible repeat (first | refine blk_drewN ?_ _ | refine blk_drew ?_ | refine blk_alloc ?_ _)); refine blk_put (cs := #[.int .i64 ((rd_T74 l0 x7_1).f0), .int .i64 0]) ?_ 1 _ rfl; (with_reducible repeat (first | refine blk_drewN ?_ _ | refine blk_drew ?_ | refine blk_alloc ?_ _)); refine blk_put (cs := #[.int .i64 0, .int .i64 0]) ?_ 0 _ rfl; (with_reducible repeat (first | refine blk_drewN ?_ _ | refine blk_drew ?_ | refine blk_alloc ?_ _)); exact BK125.out⟩
                    have n1_ : Aside0 (Below w.heap.size w ((w32.setCell ⟨gb125, 0, none⟩ (.int .i64 ((rd_T74 l0 x7_1).f0))).setCell ⟨gb125, 1, none⟩ (.int .i64 ((rd_T74 l0 x7_1).f1)))) := ⟨by repeat (first | (with_reducible first | exact HB.out | apply below_alloc | apply pw_below_drewN | apply below_drew1 | refine below_set ?_ GE125.out) | exact HB.out)⟩
                    (try clear BK125)
                    (try clear HB)
                    generalize ((w32.setCell ⟨gb125, 0, none⟩ (.int .i64 ((rd_T74 l0 x7_1).f0))).setCell ⟨gb125, 1, none⟩ (.int .i64 ((rd_T74 l0 x7_1).f1))) = w34 at n0_ n1_ ⊢
                    have BK125 := n0_
                    have HB := n1_
                    clear n0_ n1_
                    have n0_ := Aside0.mk (blk_drew BK125.out)
                    have n1_ := Aside0.mk (below_drew1 HB.out)
                    clear BK125
                    clear HB
                    have BK125 := n0_
                    have HB := n1_
                    clear n0_ n1_
                    have hq0_ : w34.cell? ⟨gb125, 0, none⟩ = some (.int .i64 ((rd_T74 l0 x7_1).f0)) := (blk_cell BK125.out 0).trans rfl
                    have hq1_ : w34.cell? ⟨gb125, 1, none⟩ = some (.int .i64 ((rd_T74 l0 x7_1).f1)) := (blk_cell BK125.out 1).trans rfl
                    go_quiet (fail)
                    have nBK125_ := Aside0.mk (blk_drewN (w := w34) BK125.out nq)
                    have nHB_ := Aside0.mk (pw_below_drewN (W := w34) ⟨HB.out.os, HB.out.tape, HB.out.output, HB.out.size, HB.out.block⟩ nq)
                    clear BK125 HB hq0_ hq1_
                    have BK125 := nBK125_
                    have HB := nHB_
                    clear nBK125_ nHB_
                    generalize w34.drewN nq = w35 at BK125 HB ⊢
                    try go_wp2
                    go_ret
                    exact ⟨by first | rfl | (simp [errW_none, errW_some] <;> rfl) | (simp [*, errW_none, errW_some] <;> rfl), by repeat (first | (with_reducible first | exact HB.out | apply below_alloc | apply pw_below_drewN | apply below_drew1 | refine below_set ?_ GE125.out) | exact HB.out)⟩
                  · rw [if_neg c31] at H
                    have c31b0 : decide (2000 < ((rd_T74 l0 x7_1).f0)) = false := decide_eq_false c31
                    clear c31
                    replace H := Option.bind_eq_some_iff.mp H
                    obtain ⟨t128, A360, H⟩ := H
                    replace H : (if t128 = true then (impl_IsTempo.l0 k1 l0 l0 (l0.length : Int) (wrap64 (x7_1 + 1))) else (some false)) = some r := H
                    have A36 := Aside0.mk A360
                    clear A360
                    by_cases c37 : t128 = true
                    · subst c37
                      have H1 : (impl_IsTempo.l0 k1 l0 l0 (l0.length : Int) (wrap64 (x7_1 + 1))) = some r := by rw [if_pos rfl] at H; exact H
                      clear H
                      have H := H1
                      clear H1
                      have H' := Aside0.mk H
                      clear H
                      have p124 : 0 ≤ (x7_1 : Int) := of_decide_eq_true (by first | (with_reducible assumption) | assumption)
                      have q124 : x7_1 < (l0.length : Int) := of_decide_eq_true (by first | (with_reducible assumption) | assumption)
                      obtain ⟨ad124, e124, hx124_0, hx124_1⟩ := at_T74 HR0.out x7_1 p124 q124
                      cases e124
                      replace hx124_0 := (HB.out.cell (World.block_lt_of_cell? w _ hx124_0)).trans hx124_0
                      replace hx124_1 := (HB.out.cell (World.block_lt_of_cell? w _ hx124_1)).trans hx124_1
                      replace p124 := eq_true p124
                      replace q124 := eq_true q124
                      try go_wp2_with (first | ((with_reducible refine gate_dst (N := 4) rfl ?_); refine box_event ?hg (N := 4) ?hd (cs := #[.int .i64 0, .int .i64 0]) (t := 74) ?hr ?_; (case hd => rfl); (case hg => rfl); (case hr => first | (go_simp; done) | (go_simp; rfl)); intro gb125 hg w38 hbox hb; have n0_ := Aside0.mk (below_step (by repeat (first | (with_reducible first | exact HB.out | apply below_alloc | apply pw_below_drewN | apply below_drew1) | exact HB.out)) hb); have n1_ := Aside0.mk (hbox); have n2_ := Aside0.mk ((by rw [hg]; exact (below_size (by repeat (first | (with_reducible first | exact HB.out | apply below_alloc | apply pw_below_drewN | apply below_drew1) | exact HB.out))) : w.heap.size ≤ gb125)); have n3_ := Aside0.mk ((by rw [hg]; exact (below_size (by repeat (first | (with_reducible first | exact HB.out | apply below_alloc | apply pw_below_drewN | apply below_drew1) | exact HB.out))) : w.heap.size ≤ gb125)); clear HB; have HB := n0_; have BK125 := n1_; have GW125 := n2_; have GE125 := n3_; clear n0_ n1_ n2_ n3_; clear hb hbox hg; have hcz39_0 : w38.cell? ⟨gb125, 0, none⟩ = some (.int .i64 0) := (blk_cell BK125.out 0).trans rfl; have hcz39_1 : w38.cell? ⟨gb125, 1, none⟩ = some (.int .i64 0) := (blk_cell BK125.out 1).trans rfl; have hfz39_0 := blk_frozen BK125.out 0; have hfz39_1 := blk_frozen BK125.out 1))
                      have n0_ : Aside0 (((w38.setCell ⟨gb125, 0, none⟩ (.int .i64 ((rd_T74 l0 x7_1).f0))).setCell ⟨gb125, 1, none⟩ (.int .i64 ((rd_T74 l0 x7_1).f1))).heap[gb125]? = some (.cells #[.int .i64 ((rd_T74 l0 x7_1).f0), .int .i64 ((rd_T74 l0 x7_1).f1)] 74 (0, 0))) := ⟨by (with_reducible repeat (first | refine blk_drewN ?_ _ | refine blk_drew ?_ | refine blk_alloc ?_ _)); refine blk_put (cs := #[.int .i64 ((rd_T74 l0 x7_1).f0), .int .i64 0]) ?_ 1 _ rfl; (with_reducible repeat (first | refine blk_drewN ?_ _ | refine blk_drew ?_ | refine blk_alloc ?_ _)); refine blk_put (cs := #[.int .i64 0, .int .i64 0]) ?_ 0 _ rfl; (with_reducible repeat (first | refine blk_drewN ?_ _ | refine blk_drew ?_ | refine blk_alloc ?_ _)); exact BK125.out⟩
                      have n1_ : Aside0 (Below w.heap.size w ((w38.setCell ⟨gb125, 0, none⟩ (.int .i64 ((rd_T74 l0 x7_1).f0))).setCell ⟨gb125, 1, none⟩ (.int .i64 ((rd_T74 l0 x7_1).f1)))) := ⟨by repeat (first | (with_reducible first | exact HB.out | apply below_alloc | apply pw_below_drewN | apply below_drew1 | refine below_set ?_ GE125.out) | exact HB.out)⟩
                      (try clear BK125)
                      (try clear HB)
                      generalize ((w38.setCell ⟨gb125, 0, none⟩ (.int .i64 ((rd_T74 l0 x7_1).f0))).setCell ⟨gb125, 1, none⟩ (.int .i64 ((rd_T74 l0 x7_1).f1))) = w40 at n0_ n1_ ⊢
                      have BK125 := n0_
                      have HB := n1_
                      clear n0_ n1_
                      have n0_ := Aside0.mk (blk_drew BK125.out)
                      have n1_ := Aside0.mk (below_drew1 HB.out)
                      clear BK125
                      clear HB
                      have BK125 := n0_
                      have HB := n1_
                      clear n0_ n1_
                      have hq0_ : w40.cell? ⟨gb125, 0, none⟩ = some (.int .i64 ((rd_T74 l0 x7_1).f0)) := (blk_cell BK125.out 0).trans rfl
                      have hq1_ : w40.cell? ⟨gb125, 1, none⟩ = some (.int .i64 ((rd_T74 l0 x7_1).f1)) := (blk_cell BK125.out 1).trans rfl
                      go_quiet ((first | (go_at_call 66; apply Calls.quiet_of; ((with_reducible refine (impl_InRange.calls ((rd_T74 l0 x7_1).f1) 20 300 true _ A36.out).mono ?_); exact fun _ _ h_ => ⟨h_.1, h_.2.out⟩))))
                      have nBK125_ := Aside0.mk (blk_drewN (w := w40) BK125.out nq)
                      have nHB_ := Aside0.mk (pw_below_drewN (W := w40) ⟨HB.out.os, HB.out.tape, HB.out.output, HB.out.size, HB.out.block⟩ nq)
                      clear BK125 HB hq0_ hq1_
                      have BK125 := nBK125_
                      have HB := nHB_
                      clear nBK125_ nHB_
                      generalize w40.drewN nq = w41 at BK125 HB ⊢
                      try go_wp2
                      go_roundg k1
                      case measure => have := HK1.out; omega
                      case rel => exact ⟨(wrap64 (x7_1 + 1)), (by first | rfl | (simp; done) | (simp [*]; done)), H', ⟨by have := HK1.out; omega⟩, ⟨by repeat (first | (with_reducible first | exact HB.out | apply below_alloc | apply pw_below_drewN | apply below_drew1 | refine below_set ?_ GE125.out) | exact HB.out)⟩⟩
                    · replace c37 := Bool.eq_false_iff.mpr c37
                      subst c37
                      have H1 : (some false) = some r := by rw [if_neg (show ¬ (false = true) by decide)] at H; exact H
                      clear H
                      have H := H1
                      clear H1
                      obtain rfl := Option.some.inj H
                      have p124 : 0 ≤ (x7_1 : Int) := of_decide_eq_true (by first | (with_reducible assumption) | assumption)
                      have q124 : x7_1 < (l0.length : Int) := of_decide_eq_true (by first | (with_reducible assumption) | assumption)
                      obtain ⟨ad124, e124, hx124_0, hx124_1⟩ := at_T74 HR0.out x7_1 p124 q124
                      cases e124
                      replace hx124_0 := (HB.out.cell (World.block_lt_of_cell? w _ hx124_0)).trans hx124_0
                      replace hx124_1 := (HB.out.cell (World.block_lt_of_cell? w _ hx124_1)).trans hx124_1
                      replace p124 := eq_true p124
                      replace q124 := eq_true q124
                      try go_wp2_with (first | ((with_reducible refine gate_dst (N := 4) rfl ?_); refine box_event ?hg (N := 4) ?hd (cs := #[.int .i64 0, .int .i64 0]) (t := 74) ?hr ?_; (case hd => rfl); (case hg => rfl); (case hr => first | (go_simp; done) | (go_simp; rfl)); intro gb125 hg w42 hbox hb; have n0_ := Aside0.mk (below_step (by repeat (first | (with_reducible first | exact HB.out | apply below_alloc | apply pw_below_drewN | apply below_drew1) | exact HB.out)) hb); have n1_ := Aside0.mk (hbox); have n2_ := Aside0.mk ((by rw [hg]; exact (below_size (by repeat (first | (with_reducible first | exact HB.out | apply below_alloc | apply pw_below_drewN | apply below_drew1) | exact HB.out))) : w.heap.size ≤ gb125)); have n3_ := Aside0.mk ((by rw [hg]; exact (below_size (by repeat (first | (with_reducible first | exact HB.out | apply below_alloc | apply pw_below_drewN | apply below_drew1) | exact HB.out))) : w.heap.size ≤ gb125)); clear HB; have HB := n0_; have BK125 := n1_; have GW125 := n2_; have GE125 := n3_; clear n0_ n1_ n2_ n3_; clear hb hbox hg; have hcz43_0 : w42.cell? ⟨gb125, 0, none⟩ = some (.int .i64 0) := (blk_cell BK125.out 0).trans rfl; have hcz43_1 : w42.cell? ⟨gb125, 1, none⟩ = some (.int .i64 0) := (blk_cell BK125.out 1).trans rfl; have hfz43_0 := blk_frozen BK125.out 0; have hfz43_1 := blk_frozen BK125.out 1))
                      have n0_ : Aside0 (((w42.setCell ⟨gb125, 0, none⟩ (.int .i64 ((rd_T74 l0 x7_1).f0))).setCell ⟨gb125, 1, none⟩ (.int .i64 ((rd_T74 l0 x7_1).f1))).heap[gb125]? = some (.cells #[.int .i64 ((rd_T74 l0 x7_1).f0), .int .i64 ((rd_T74 l0 x7_1).f1)] 74 (0, 0))) := ⟨by (with_reducible repeat (first | refine blk_drewN ?_ _ | refine blk_drew ?_ | refine blk_alloc ?_ _)); refine blk_put (cs := #[.int .i64 ((rd_T74 l0 x7_1).f0), .int .i64 0]) ?_ 1 _ rfl; (with_reducible repeat (first | refine blk_drewN ?_ _ | refine blk_drew ?_ | refine blk_alloc ?_ _)); refine blk_put (cs := #[.int .i64 0, .int .i64 0]) ?_ 0 _ rfl; (with_reducible repeat (first | refine blk_drewN ?_ _ | refine blk_drew ?_ | refine blk_alloc ?_ _)); exact BK125.out⟩
                      have n1_ : Aside0 (Below w.heap.size w ((w42.setCell ⟨gb125, 0, none⟩ (.int .i64 ((rd_T74 l0 x7_1).f0))).setCell ⟨gb125, 1, none⟩ (.int .i64 ((rd_T74 l0 x7_1).f1)))) := ⟨by repeat (first | (with_reducible first | exact HB.out | apply below_alloc | apply pw_below_drewN | apply below_drew1 | refine below_set ?_ GE125.out) | exact HB.out)⟩
                      (try clear BK125)
                      (try clear HB)
                      generalize ((w42.setCell ⟨gb125, 0, none⟩ (.int .i64 ((rd_T74 l0 x7_1).f0))).setCell ⟨gb125, 1, none⟩ (.int .i64 ((rd_T74 l0 x7_1).f1))) = w44 at n0_ n1_ ⊢
                      have BK125 := n0_
                      have HB := n1_
                      clear n0_ n1_
                      have n0_ := Aside0.mk (blk_drew BK125.out)
                      have n1_ := Aside0.mk (below_drew1 HB.out)
                      clear BK125
                      clear HB
                      have BK125 := n0_
                      have HB := n1_
                      clear n0_ n1_
                      have hq0_ : w44.cell? ⟨gb125, 0, none⟩ = some (.int .i64 ((rd_T74 l0 x7_1).f0)) := (blk_cell BK125.out 0).trans rfl
                      have hq1_ : w44.cell? ⟨gb125, 1, none⟩ = some (.int .i64 ((rd_T74 l0 x7_1).f1)) := (blk_cell BK125.out 1).trans rfl
                      go_quiet ((first | (go_at_call 66; apply Calls.quiet_of; ((with_reducible refine (impl_InRange.calls ((rd_T74 l0 x7_1).f1) 20 300 false _ A36.out).mono ?_); exact fun _ _ h_ => ⟨h_.1, h_.2.out⟩))))
                      have nBK125_ := Aside0.mk (blk_drewN (w := w44) BK125.out nq)
                      have nHB_ := Aside0.mk (pw_below_drewN (W := w44) ⟨HB.out.os, HB.out.tape, HB.out.output, HB.out.size, HB.out.block⟩ nq)
                      clear BK125 HB hq0_ hq1_
                      have BK125 := nBK125_
                      have HB := nHB_
                      clear nBK125_ nHB_
                      generalize w44.drewN nq = w45 at BK125 HB ⊢
                      try go_wp2
                      go_ret
                      exact ⟨by first | rfl | (simp [errW_none, errW_some] <;> rfl) | (simp [*, errW_none, errW_some] <;> rfl), by repeat (first | (with_reducible first | exact HB.out | apply below_alloc | apply pw_below_drewN | apply below_drew1 | refine below_set ?_ GE125.out) | exact HB.out)⟩
              · rw [if_neg c6] at H
                have c6b0 : (((rd_T74 l0 x7_1).f0) == 0) = false := beq_eq_false_iff_ne.mpr c6
                have c6b1 : (((rd_T74 l0 x7_1).f0) != 0) = true := bne_iff_ne.mpr c6
                obtain rfl := Option.some.inj H
                have p124 : 0 ≤ (x7_1 : Int) := of_decide_eq_true (by first | (with_reducible assumption) | assumption)
                have q124 : x7_1 < (l0.length : Int) := of_decide_eq_true (by first | (with_reducible assumption) | assumption)
                obtain ⟨ad124, e124, hx124_0, hx124_1⟩ := at_T74 HR0.out x7_1 p124 q124
                cases e124
                replace hx124_0 := (HB.out.cell (World.block_lt_of_cell? w _ hx124_0)).trans hx124_0
                replace hx124_1 := (HB.out.cell (World.block_lt_of_cell? w _ hx124_1)).trans hx124_1
                replace p124 := eq_true p124
                replace q124 := eq_true q124
                try go_wp2_with (first | ((with_reducible refine gate_dst (N := 4) rfl ?_); refine box_event ?hg (N := 4) ?hd (cs := #[.int .i64 0, .int .i64 0]) (t := 74) ?hr ?_; (case hd => rfl); (case hg => rfl); (case hr => first | (go_simp; done) | (go_simp; rfl)); intro gb125 hg w46 hbox hb; have n0_ := Aside0.mk (below_step (by repeat (first | (with_reducible first | exact HB.out | apply below_alloc | apply pw_below_drewN | apply below_drew1) | exact HB.out)) hb); have n1_ := Aside0.mk (hbox); have n2_ := Aside0.mk ((by rw [hg]; exact (below_size (by repeat (first | (with_reducible first | exact HB.out | apply below_alloc | apply pw_below_drewN | apply below_drew1) | exact HB.out))) : w.heap.size ≤ gb125)); have n3_ := Aside0.mk ((by rw [hg]; exact (below_size (by repeat (first | (with_reducible first | exact HB.out | apply below_alloc | apply pw_below_drewN | apply below_drew1) | exact HB.out))) : w.heap.size ≤ gb125)); clear HB; have HB := n0_; have BK125 := n1_; have GW125 := n2_; have GE125 := n3_; clear n0_ n1_ n2_ n3_; clear hb hbox hg; have hcz47_0 : w46.cell? ⟨gb125, 0, none⟩ = some (.int .i64 0) := (blk_cell BK125.out 0).trans rfl; have hcz47_1 : w46.cell? ⟨gb125, 1, none⟩ = some (.int .i64 0) := (blk_cell BK125.out 1).trans rfl; have hfz47_0 := blk_frozen BK125.out 0; have hfz47_1 := blk_frozen BK125.out 1))
                have n0_ : Aside0 (((w46.setCell ⟨gb125, 0, none⟩ (.int .i64 ((rd_T74 l0 x7_1).f0))).setCell ⟨gb125, 1, none⟩ (.int .i64 ((rd_T74 l0 x7_1).f1))).heap[gb125]? = some (.cells #[.int .i64 ((rd_T74 l0 x7_1).f0), .int .i64 ((rd_T74 l0 x7_1).f1)] 74 (0, 0))) := ⟨by (with_reducible repeat (first | refine blk_drewN ?_ _ | refine blk_drew ?_ | refine blk_alloc ?_ _)); refine blk_put (cs := #[.int .i64 ((rd_T74 l0 x7_1).f0), .int .i64 0]) ?_ 1 _ rfl; (with_reducible repeat (first | refine blk_drewN ?_ _ | refine blk_drew ?_ | refine blk_alloc ?_ _)); refine blk_put (cs := #[.int .i64 0, .int .i64 0]) ?_ 0 _ rfl; (with_reducible repeat (first | refine blk_drewN ?_ _ | refine blk_drew ?_ | refine blk_alloc ?_ _)); exact BK125.out⟩
                have n1_ : Aside0 (Below w.heap.size w ((w46.setCell ⟨gb125, 0, none⟩ (.int .i64 ((rd_T74 l0 x7_1).f0))).setCell ⟨gb125, 1, none⟩ (.int .i64 ((rd_T74 l0 x7_1).f1)))) := ⟨by repeat (first | (with_reducible first | exact HB.out | apply below_alloc | apply pw_below_drewN | apply below_drew1 | refine below_set ?_ GE125.out) | exact HB.out)⟩
                (try clear BK125)
                (try clear HB)
                generalize ((w46.setCell ⟨gb125, 0, none⟩ (.int .i64 ((rd_T74 l0 x7_1).f0))).setCell ⟨gb125, 1, none⟩ (.int .i64 ((rd_T74 l0 x7_1).f1))) = w48 at n0_ n1_ ⊢
                have BK125 := n0_
                have HB := n1_
                clear n0_ n1_
                have n0_ := Aside0.mk (blk_drew BK125.out)
                have n1_ := Aside0.mk (below_drew1 HB.out)
                clear BK125
                clear HB
                have BK125 := n0_
                have HB := n1_
                clear n0_ n1_
                have hq0_ : w48.cell? ⟨gb125, 0, none⟩ = some (.int .i64 ((rd_T74 l0 x7_1).f0)) := (blk_cell BK125.out 0).trans rfl
                have hq1_ : w48.cell? ⟨gb125, 1, none⟩ = some (.int .i64 ((rd_T74 l0 x7_1).f1)) := (blk_cell BK125.out 1).trans rfl
                go_quiet (fail)
                have nBK125_ := Aside0.mk (blk_drewN (w := w48) BK125.out nq)
                have nHB_ := Aside0.mk (pw_below_drewN (W := w48) ⟨HB.out.os, HB.out.tape, HB.out.output, HB.out.size, HB.out.block⟩ nq)
                clear BK125 HB hq0_ hq1_
                have BK125 := nBK125_
                have HB := nHB_
                clear nBK125_ nHB_
                generalize w48.drewN nq = w49 at BK125 HB ⊢
                try go_wp2
                go_ret
                exact ⟨by first | rfl | (simp [errW_none, errW_some] <;> rfl) | (simp [*, errW_none, errW_some] <;> rfl), by repeat (first | (with_reducible first | exact HB.out | apply below_alloc | apply pw_below_drewN | apply below_drew1 | refine below_set ?_ GE125.out) | exact HB.out)⟩
            · rw [if_neg c5] at H
              have c5b0 : (x7_1 == 0) = false := beq_eq_false_iff_ne.mpr c5
              have c5b1 : (x7_1 != 0) = true := bne_iff_ne.mpr c5
              by_cases c50 : x7_1 > 0
              · rw [if_pos c50] at H
                have c50b0 : decide (0 < x7_1) = true := decide_eq_true c50
                clear c50
                obtain ⟨ji51, hji51⟩ : ∃ j_ : Int, (wrap64 (x7_1 - 1)) = j_ := ⟨_, rfl⟩
                replace H : (if 0 ≤ (ji51) then (if (ji51) < (l0.length : Int) then (if ((rd_T74 l0 (ji51)).f0) ≥ ((rd_T74 l0 x7_1).f0) then (some false) else (if ((rd_T74 l0 x7_1).f0) > 2000 then (some false) else ((impl_InRange.f ((rd_T74 l0 x7_1).f1) 20 300).bind fun t130 => (if t130 = true then (impl_IsTempo.l0 k1 l0 l0 (l0.length : Int) (wrap64 (x7_1 + 1))) else (some false))))) else (none)) else (none)) = some r := by first | (rw [hji51] at H; exact H) | (simp only [hji51] at H ⊢; exact H)
                have hji51w : (IntKind.i64.wrap (x7_1 - 1)) = ji51 := (i64_w _).trans hji51
                by_cases c52 : 0 ≤ (ji51)
                · rw [if_pos c52] at H
                  have c52b0 : decide (0 ≤ (ji51)) = true := decide_eq_true c52
                  clear c52
                  by_cases c53 : (ji51) < (l0.length : Int)
                  · rw [if_pos c53] at H
                    have c53b0 : decide ((ji51) < (l0.length : Int)) = true := decide_eq_true c53
                    clear c53
                    by_cases c54 : ((rd_T74 l0 (ji51)).f0) ≥ ((rd_T74 l0 x7_1).f0)
                    · rw [if_pos c54] at H
                      have c54b0 : decide (((rd_T74 l0 x7_1).f0) ≤ ((rd_T74 l0 (ji51)).f0)) = true := decide_eq_true c54
                      clear c54
                      obtain rfl := Option.some.inj H
                      have p124 : 0 ≤ (x7_1 : Int) := of_decide_eq_true (by first | (with_reducible assumption) | assumption)
                      have q124 : x7_1 < (l0.length : Int) := of_decide_eq_true (by first | (with_reducible assumption) | assumption)
                      obtain ⟨ad124, e124, hx124_0, hx124_1⟩ := at_T74 HR0.out x7_1 p124 q124
                      cases e124
                      replace hx124_0 := (HB.out.cell (World.block_lt_of_cell? w _ hx124_0)).trans hx124_0
                      replace hx124_1 := (HB.out.cell (World.block_lt_of_cell? w _ hx124_1)).trans hx124_1
                      replace p124 := eq_true p124
                      replace q124 := eq_true q124
                      try go_wp2_with (first | ((with_reducible refine gate_dst (N := 4) rfl ?_); refine box_event ?hg (N := 4) ?hd (cs := #[.int .i64 0, .int .i64 0]) (t := 74) ?hr ?_; (case hd => rfl); (case hg => rfl); (case hr => first | (go_simp; done) | (go_simp; rfl)); intro gb125 hg w55 hbox hb; have n0_ := Aside0.mk (below_step (by repeat (first | (with_reducible first | exact HB.out | apply below_alloc | apply pw_below_drewN | apply below_drew1) | exact HB.out)) hb); have n1_ := Aside0.mk (hbox); have n2_ := Aside0.mk ((by rw [hg]; exact (below_size (by repeat (first | (with_reducible first | exact HB.out | apply below_alloc | apply pw_below_drewN | apply below_drew1) | exact HB.out))) : w.heap.size ≤ gb125)); have n3_ := Aside0.mk ((by rw [hg]; exact (below_size (by repeat (first | (with_reducible first | exact HB.out | apply below_alloc | apply pw_below_drewN | apply below_drew1) | exact HB.out))) : w.heap.size ≤ gb125)); clear HB; have HB := n0_; have BK125 := n1_; have GW125 := n2_; have GE125 := n3_; clear n0_ n1_ n2_ n3_; clear hb hbox hg; have hcz56_0 : w55.cell? ⟨gb125, 0, none⟩ = some (.int .i64 0) := (blk_cell BK125.out 0).trans rfl; have hcz56_1 : w55.cell? ⟨gb125, 1, none⟩ = some (.int .i64 0) := (blk_cell BK125.out 1).trans rfl; have hfz56_0 := blk_frozen BK125.out 0; have hfz56_1 := blk_frozen BK125.out 1))
                      have n0_ : Aside0 (((w55.setCell ⟨gb125, 0, none⟩ (.int .i64 ((rd_T74 l0 x7_1).f0))).setCell ⟨gb125, 1, none⟩ (.int .i64 ((rd_T74 l0 x7_1).f1))).heap[gb125]? = some (.cells #[.int .i64 ((rd_T74 l0 x7_1).f0), .int .i64 ((rd_T74 l0 x7_1).f1)] 74 (0, 0))) := ⟨by (with_reducible repeat (first | refine blk_drewN ?_ _ | refine blk_drew ?_ | refine blk_alloc ?_ _)); refine blk_put (cs := #[.int .i64 ((rd_T74 l0 x7_1).f0), .int .i64 0]) ?_ 1 _ rfl; (with_reducible repeat (first | refine blk_drewN ?_ _ | refine blk_drew ?_ | refine blk_alloc ?_ _)); refine blk_put (cs := #[.int .i64 0, .int .i64 0]) ?_ 0 _ rfl; (with_reducible repeat (first | refine blk_drewN ?_ _ | refine blk_drew ?_ | refine blk_alloc ?_ _)); exact BK125.out⟩
                      have n1_ : Aside0 (Below w.heap.size w ((w55.setCell ⟨gb125, 0, none⟩ (.int .i64 ((rd_T74 l0 x7_1).f0))).setCell ⟨gb125, 1, none⟩ (.int .i64 ((rd_T74 l0 x7_1).f1)))) := ⟨by repeat (first | (with_reducible first | exact HB.out | apply below_alloc | apply pw_below_drewN | apply below_drew1 | refine below_set ?_ GE125.out) | exact HB.out)⟩
                      (try clear BK125)
                      (try clear HB)
                      generalize ((w55.setCell ⟨gb125, 0, none⟩ (.int .i64 ((rd_T74 l0 x7_1).f0))).setCell ⟨gb125, 1, none⟩ (.int .i64 ((rd_T74 l0 x7_1).f1))) = w57 at n0_ n1_ ⊢
                      have BK125 := n0_
                      have HB := n1_
                      clear n0_ n1_
                      have n0_ := Aside0.mk (blk_drew BK125.out)
                      have n1_ := Aside0.mk (below_drew1 HB.out)
                      clear BK125
                      clear HB
                      have BK125 := n0_
                      have HB := n1_
                      clear n0_ n1_
                      have p129 : 0 ≤ ((ji51) : Int) := of_decide_eq_true (by first | (with_reducible assumption) | assumption)
                      have q129 : (ji51) < (l0.length : Int) := of_decide_eq_true (by first | (with_reducible assumption) | assumption)
                      obtain ⟨ad129, e129, hx129_0, hx129_1⟩ := at_T74 HR0.out (ji51) p129 q129
                      have hw129_1 := hx129_1
                      have hw129_0 := hx129_0
                      obtain rfl : ad124 = ad129 := (by injection e129)
                      replace hx129_0 := (HB.out.cell (World.block_lt_of_cell? w _ hx129_0)).trans hx129_0
                      replace hx129_1 := (HB.out.cell (World.block_lt_of_cell? w _ hx129_1)).trans hx129_1
                      replace p129 := eq_true p129
                      replace q129 := eq_true q129
                      have hq0_ : w57.cell? ⟨gb125, 0, none⟩ = some (.int .i64 ((rd_T74 l0 x7_1).f0)) := (blk_cell BK125.out 0).trans rfl
                      have hq1_ : w57.cell? ⟨gb125, 1, none⟩ = some (.int .i64 ((rd_T74 l0 x7_1).f1)) := (blk_cell BK125.out 1).trans rfl
                      have hq2_ : w57.cell? (ad124.add (((ji51)).toNat * 2)) = some (.int .i64 ((rd_T74 l0 (ji51)).f0)) := ((HB.out.cell (World.block_lt_of_cell? w _ hw129_0)).trans hw129_0)
                      have hq3_ : w57.cell? ⟨(ad124.add (((ji51)).toNat * 2)).block, (ad124.add (((ji51)).toNat * 2)).off + 1, none⟩ = some (.int .i64 ((rd_T74 l0 (ji51)).f1)) := ((HB.out.cell (World.block_lt_of_cell? w _ hw129_1)).trans hw129_1)
                      go_quiet (fail)
                      have nBK125_ := Aside0.mk (blk_drewN (w := w57) BK125.out nq)
                      have nHB_ := Aside0.mk (pw_below_drewN (W := w57) ⟨HB.out.os, HB.out.tape, HB.out.output, HB.out.size, HB.out.block⟩ nq)
                      have nhx129_0_ : (w57.drewN nq).cell? _ = _ := hx129_0
                      have nhx129_1_ : (w57.drewN nq).cell? _ = _ := hx129_1
                      clear BK125 HB hx129_0 hx129_1 hq0_ hq1_ hq2_ hq3_
                      have BK125 := nBK125_
                      have HB := nHB_
                      have hx129_0 := nhx129_0_
                      have hx129_1 := nhx129_1_
                      clear nBK125_ nHB_ nhx129_0_ nhx129_1_
                      generalize w57.drewN nq = w58 at BK125 HB hx129_0 hx129_1 ⊢
                      try go_wp2
                      go_ret
                      exact ⟨by first | rfl | (simp [errW_none, errW_some] <;> rfl) | (simp only [← hji51]; first | rfl | (simp [errW_none, errW_some] <;> rfl)) | (simp [*, errW_none, errW_some] <;> rfl), by repeat (first | (with_reducible first | exact HB.out | apply below_alloc | apply pw_below_drewN | apply below_drew1 | refine below_set ?_ GE125.out) | exact HB.out)⟩
                    · rw [if_neg c54] at H
                      have c54b0 : decide (((rd_T74 l0 x7_1).f0) ≤ ((rd_T74 l0 (ji51)).f0)) = false := decide_eq_false c54
                      clear c54
                      by_cases c59 : ((rd_T74 l0 x7_1).f0) > 2000
                      · rw [if_pos c59] at H
                        have c59b0 : decide (2000 < ((rd_T74 l0 x7_1).f0)) = true := decide_eq_true c59
                        clear c59
                        obtain rfl := Option.some.inj H
                        have p124 : 0 ≤ (x7_1 : Int) := of_decide_eq_true (by first | (with_reducible assumption) | assumption)
                        have q124 : x7_1 < (l0.length : Int) := of_decide_eq_true (by first | (with_reducible assumption) | assumption)
                        obtain ⟨ad124, e124, hx124_0, hx124_1⟩ := at_T74 HR0.out x7_1 p124 q124
                        cases e124
                        replace hx124_0 := (HB.out.cell (World.block_lt_of_cell? w _ hx124_0)).trans hx124_0
                        replace hx124_1 := (HB.out.cell (World.block_lt_of_cell? w _ hx124_1)).trans hx124_1
                        replace p124 := eq_true p124
                        replace q124 := eq_true q124
                        try go_wp2_with (first | ((with_reducible refine gate_dst (N := 4) rfl ?_); refine box_event ?hg (N := 4) ?hd (cs := #[.int .i64 0, .int .i64 0]) (t := 74) ?hr ?_; (case hd => rfl); (case hg => rfl); (case hr => first | (go_simp; done) | (go_simp; rfl)); intro gb125 hg w60 hbox hb; have n0_ := Aside0.mk (below_step (by repeat (first | (with_reducible first | exact HB.out | apply below_alloc | apply pw_below_drewN | apply below_drew1) | exact HB.out)) hb); have n1_ := Aside0.mk (hbox); have n2_ := Aside0.mk ((by rw [hg]; exact (below_size (by repeat (first | (with_reducible first | exact HB.out | apply below_alloc | apply pw_below_drewN | apply below_drew1) | exact HB.out))) : w.heap.size ≤ gb125)); have n3_ := Aside0.mk ((by rw [hg]; exact (below_size (by repeat (first | (with_reducible first | exact HB.out | apply below_alloc | apply pw_below_drewN | apply below_drew1) | exact HB.out))) : w.heap.size ≤ gb125)); clear HB; have HB := n0_; have BK125 := n1_; have GW125 := n2_; have GE125 := n3_; clear n0_ n1_ n2_ n3_; clear hb hbox hg; have hcz61_0 : w60.cell? ⟨gb125, 0, none⟩ = some (.int .i64 0) := (blk_cell BK125.out 0).trans rfl; have hcz61_1 : w60.cell? ⟨gb125, 1, none⟩ = some (.int .i64 0) := (blk_cell BK125.out 1).trans rfl; have hfz61_0 := blk_frozen BK125.out 0; have hfz61_1 := blk_frozen BK125.out 1))
                        have n0_ : Aside0 (((w60.setCell ⟨gb125, 0, none⟩ (.int .i64 ((rd_T74 l0 x7_1).f0))).setCell ⟨gb125, 1, none⟩ (.int .i64 ((rd_T74 l0 x7_1).f1))).heap[gb125]? = some (.cells #[.int .i64 ((rd_T74 l0 x7_1).f0), .int .i64 ((rd_T74 l0 x7_1).f1)] 74 (0, 0))) := ⟨by (with_reducible repeat (first | refine blk_drewN ?_ _ | refine blk_drew ?_ | refine blk_alloc ?_ _)); refine blk_put (cs := #[.int .i64 ((rd_T74 l0 x7_1).f0), .int .i64 0]) ?_ 1 _ rfl; (with_reducible repeat (first | refine blk_drewN ?_ _ | refine blk_drew ?_ | refine blk_alloc ?_ _)); refine blk_put (cs := #[.int .i64 0, .int .i64 0]) ?_ 0 _ rfl; (with_reducible repeat (first | refine blk_drewN ?_ _ | refine blk_drew ?_ | refine blk_alloc ?_ _)); exact BK125.out⟩
                        have n1_ : Aside0 (Below w.heap.size w ((w60.setCell ⟨gb125, 0, none⟩ (.int .i64 ((rd_T74 l0 x7_1).f0))).setCell ⟨gb125, 1, none⟩ (.int .i64 ((rd_T74 l0 x7_1).f1)))) := ⟨by repeat (first | (with_reducible first | exact HB.out | apply below_alloc | apply pw_below_drewN | apply below_drew1 | refine below_set ?_ GE125.out) | exact HB.out)⟩
                        (try clear BK125)
                        (try clear HB)
                        generalize ((w60.setCell ⟨gb125, 0, none⟩ (.int .i64 ((rd_T74 l0 x7_1).f0))).setCell ⟨gb125, 1, none⟩ (.int .i64 ((rd_T74 l0 x7_1).f1))) = w62 at n0_ n1_ ⊢
                        have BK125 := n0_
                        have HB := n1_
                        clear n0_ n1_
                        have n0_ := Aside0.mk (blk_drew BK125.out)
                        have n1_ := Aside0.mk (below_drew1 HB.out)
                        clear BK125
                        clear HB
                        have BK125 := n0_
                        have HB := n1_
                        clear n0_ n1_
                        have p129 : 0 ≤ ((ji51) : Int) := of_decide_eq_true (by first | (with_reducible assumption) | assumption)
                        have q129 : (ji51) < (l0.length : Int) := of_decide_eq_true (by first | (with_reducible assumption) | assumption)
                        obtain ⟨ad129, e129, hx129_0, hx129_1⟩ := at_T74 HR0.out (ji51) p129 q129
                        have hw129_1 := hx129_1
                        have hw129_0 := hx129_0
                        obtain rfl : ad124 = ad129 := (by injection e129)
                        replace hx129_0 := (HB.out.cell (World.block_lt_of_cell? w _ hx129_0)).trans hx129_0
                        replace hx129_1 := (HB.out.cell (World.block_lt_of_cell? w _ hx129_1)).trans hx129_1
                        replace p129 := eq_true p129
                        replace q129 := eq_true q129
                        have hq0_ : w62.cell? ⟨gb125, 0, none⟩ = some (.int .i64 ((rd_T74 l0 x7_1).f0)) := (blk_cell BK125.out 0).trans rfl
                        have hq1_ : w62.cell? ⟨gb125, 1, none⟩ = some (.int .i64 ((rd_T74 l0 x7_1).f1)) := (blk_cell BK125.out 1).trans rfl
                        have hq2_ : w62.cell? (ad124.add (((ji51)).toNat * 2)) = some (.int .i64 ((rd_T74 l0 (ji51)).f0)) := ((HB.out.cell (World.block_lt_of_cell? w _ hw129_0)).trans hw129_0)
                        have hq3_ : w62.cell? ⟨(ad124.add (((ji51)).toNat * 2)).block, (ad124.add (((ji51)).toNat * 2)).off + 1, none⟩ = some (.int .i64 ((rd_T74 l0 (ji51)).f1)) := ((HB.out.cell (World.block_lt_of_cell? w _ hw129_1)).trans hw129_1)
                        go_quiet (fail)
                        have nBK125_ := Aside0.mk (blk_drewN (w := w62) BK125.out nq)
                        have nHB_ := Aside0.mk (pw_below_drewN (W := w62) ⟨HB.out.os, HB.out.tape, HB.out.output, HB.out.size, HB.out.block⟩ nq)
                        have nhx129_0_ : (w62.drewN nq).cell? _ = _ := hx129_0
                        have nhx129_1_ : (w62.drewN nq).cell? _ = _ := hx129_1
                        clear BK125 HB hx129_0 hx129_1 hq0_ hq1_ hq2_ hq3_
                        have BK125 := nBK125_
                        have HB := nHB_
                        have hx129_0 := nhx129_0_
                        have hx129_1 := nhx129_1_
                        clear nBK125_ nHB_ nhx129_0_ nhx129_1_
                        generalize w62.drewN nq = w63 at BK125 HB hx129_0 hx129_1 ⊢
                        try go_wp2
                        go_ret
                        exact ⟨by first | rfl | (simp [errW_none, errW_some] <;> rfl) | (simp only [← hji51]; first | rfl | (simp [errW_none, errW_some] <;> rfl)) | (simp [*, errW_none, errW_some] <;> rfl), by repeat (first | (with_reducible first | exact HB.out | apply below_alloc | apply pw_below_drewN | apply below_drew1 | refine below_set ?_ GE125.out) | exact HB.out)⟩
                      · rw [if_neg c59] at H
                        have c59b0 : decide (2000 < ((rd_T74 l0 x7_1).f0)) = false := decide_eq_false c59
                        clear c59
                        replace H := Option.bind_eq_some_iff.mp H
                        obtain ⟨t130, A640, H⟩ := H
                        replace H : (if t130 = true then (impl_IsTempo.l0 k1 l0 l0 (l0.length : Int) (wrap64 (x7_1 + 1))) else (some false)) = some r := H
                        have A64 := Aside0.mk A640
                        clear A640
                        by_cases c65 : t130 = true
                        · subst c65
                          have H1 : (impl_IsTempo.l0 k1 l0 l0 (l0.length : Int) (wrap64 (x7_1 + 1))) = some r := by rw [if_pos rfl] at H; exact H
                          clear H
                          have H := H1
                          clear H1
                          have H' := Aside0.mk H
                          clear H
                          have p124 : 0 ≤ (x7_1 : Int) := of_decide_eq_true (by first | (with_reducible assumption) | assumption)
                          have q124 : x7_1 < (l0.length : Int) := of_decide_eq_true (by first | (with_reducible assumption) | assumption)
                          obtain ⟨ad124, e124, hx124_0, hx124_1⟩ := at_T74 HR0.out x7_1 p124 q124
                          cases e124
                          replace hx124_0 := (HB.out.cell (World.block_lt_of_cell? w _ hx124_0)).trans hx124_0
                          replace hx124_1 := (HB.out.cell (World.block_lt_of_cell? w _ hx124_1)).trans hx124_1
                          replace p124 := eq_true p124
                          replace q124 := eq_true q124
                          try go_wp2_with (first | ((with_reducible refine gate_dst (N := 4) rfl ?_); refine box_event ?hg (N := 4) ?hd (cs := #[.int .i64 0, .int .i64 0]) (t := 74) ?hr ?_; (case hd => rfl); (case hg => rfl); (case hr => first | (go_simp; done) | (go_simp; rfl)); intro gb125 hg w66 hbox hb; have n0_ := Aside0.mk (below_step (by repeat (first | (with_reducible first | exact HB.out | apply below_alloc | apply pw_below_drewN | apply below_drew1) | exact HB.out)) hb); have n1_ := Aside0.mk (hbox); have n2_ := Aside0.mk ((by rw [hg]; exact (below_size (by repeat (first | (with_reducible first | exact HB.out | apply below_alloc | apply pw_below_drewN | apply below_drew1) | exact HB.out))) : w.heap.size ≤ gb125)); have n3_ := Aside0.mk ((by rw [hg]; exact (below_size (by repeat (first | (with_reducible first | exact HB.out | apply below_alloc | apply pw_below_drewN | apply below_drew1) | exact HB.out))) : w.heap.size ≤ gb125)); clear HB; have HB := n0_; have BK125 := n1_; have GW125 := n2_; have GE125 := n3_; clear n0_ n1_ n2_ n3_; clear hb hbox hg; have hcz67_0 : w66.cell? ⟨gb125, 0, none⟩ = some (.int .i64 0) := (blk_cell BK125.out 0).trans rfl; have hcz67_1 : w66.cell? ⟨gb125, 1, none⟩ = some (.int .i64 0) := (blk_cell BK125.out 1).trans rfl; have hfz67_0 := blk_frozen BK125.out 0; have hfz67_1 := blk_frozen BK125.out 1))
                          have n0_ : Aside0 (((w66.setCell ⟨gb125, 0, none⟩ (.int .i64 ((rd_T74 l0 x7_1).f0))).setCell ⟨gb125, 1, none⟩ (.int .i64 ((rd_T74 l0 x7_1).f1))).heap[gb125]? = some (.cells #[.int .i64 ((rd_T74 l0 x7_1).f0), .int .i64 ((rd_T74 l0 x7_1).f1)] 74 (0, 0))) := ⟨by (with_reducible repeat (first | refine blk_drewN ?_ _ | refine blk_drew ?_ | refine blk_alloc ?_ _)); refine blk_put (cs := #[.int .i64 ((rd_T74 l0 x7_1).f0), .int .i64 0]) ?_ 1 _ rfl; (with_reducible repeat (first | refine blk_drewN ?_ _ | refine blk_drew ?_ | refine blk_alloc ?_ _)); refine blk_put (cs := #[.int .i64 0, .int .i64 0]) ?_ 0 _ rfl; (with_reducible repeat (first | refine blk_drewN ?_ _ | refine blk_drew ?_ | refine blk_alloc ?_ _)); exact BK125.out⟩
                          have n1_ : Aside0 (Below w.heap.size w ((w66.setCell ⟨gb125, 0, none⟩ (.int .i64 ((rd_T74 l0 x7_1).f0))).setCell ⟨gb125, 1, none⟩ (.int .i64 ((rd_T74 l0 x7_1).f1)))) := ⟨by repeat (first | (with_reducible first | exact HB.out | apply below_alloc | apply pw_below_drewN | apply below_drew1 | refine below_set ?_ GE125.out) | exact HB.out)⟩
                          (try clear BK125)
                          (try clear HB)
                          generalize ((w66.setCell ⟨gb125, 0, none⟩ (.int .i64 ((rd_T74 l0 x7_1).f0))).setCell ⟨gb125, 1, none⟩ (.int .i64 ((rd_T74 l0 x7_1).f1))) = w68 at n0_ n1_ ⊢
                          have BK125 := n0_
                          have HB := n1_
                          clear n0_ n1_
                          have n0_ := Aside0.mk (blk_drew BK125.out)
                          have n1_ := Aside0.mk (below_drew1 HB.out)
                          clear BK125
                          clear HB
                          have BK125 := n0_
                          have HB := n1_
                          clear n0_ n1_
                          have p129 : 0 ≤ ((ji51) : Int) := of_decide_eq_true (by first | (with_reducible assumption) | assumption)
                          have q129 : (ji51) < (l0.length : Int) := of_decide_eq_true (by first | (with_reducible assumption) | assumption)
                          obtain ⟨ad129, e129, hx129_0, hx129_1⟩ := at_T74 HR0.out (ji51) p129 q129
                          have hw129_1 := hx129_1
                          have hw129_0 := hx129_0
                          obtain rfl : ad124 = ad129 := (by injection e129)
                          replace hx129_0 := (HB.out.cell (World.block_lt_of_cell? w _ hx129_0)).trans hx129_0
                          replace hx129_1 := (HB.out.cell (World.block_lt_of_cell? w _ hx129_1)).trans hx129_1
                          replace p129 := eq_true p129
                          replace q129 := eq_true q129
                          have hq0_ : w68.cell? ⟨gb125, 0, none⟩ = some (.int .i64 ((rd_T74 l0 x7_1).f0)) := (blk_cell BK125.out 0).trans rfl
                          have hq1_ : w68.cell? ⟨gb125, 1, none⟩ = some (.int .i64 ((rd_T74 l0 x7_1).f1)) := (blk_cell BK125.out 1).trans rfl
                          have hq2_ : w68.cell? (ad124.add (((ji51)).toNat * 2)) = some (.int .i64 ((rd_T74 l0 (ji51)).f0)) := ((HB.out.cell (World.block_lt_of_cell? w _ hw129_0)).trans hw129_0)
                          have hq3_ : w68.cell? ⟨(ad124.add (((ji51)).toNat * 2)).block, (ad124.add (((ji51)).toNat * 2)).off + 1, none⟩ = some (.int .i64 ((rd_T74 l0 (ji51)).f1)) := ((HB.out.cell (World.block_lt_of_cell? w _ hw129_1)).trans hw129_1)
                          go_quiet ((first | (go_at_call 66; apply Calls.quiet_of; ((with_reducible refine (impl_InRange.calls ((rd_T74 l0 x7_1).f1) 20 300 true _ A64.out).mono ?_); exact fun _ _ h_ => ⟨h_.1, h_.2.out⟩))))
                          have nBK125_ := Aside0.mk (blk_drewN (w := w68) BK125.out nq)
                          have nHB_ := Aside0.mk (pw_below_drewN (W := w68) ⟨HB.out.os, HB.out.tape, HB.out.output, HB.out.size, HB.out.block⟩ nq)
                          have nhx129_0_ : (w68.drewN nq).cell? _ = _ := hx129_0
                          have nhx129_1_ : (w68.drewN nq).cell? _ = _ := hx129_1
                          clear BK125 HB hx129_0 hx129_1 hq0_ hq1_ hq2_ hq3_
                          have BK125 := nBK125_
                          have HB := nHB_
                          have hx129_0 := nhx129_0_
                          have hx129_1 := nhx129_1_
                          clear nBK125_ nHB_ nhx129_0_ nhx129_1_
                          generalize w68.drewN nq = w69 at BK125 HB hx129_0 hx129_1 ⊢
                          try go_wp2
                          go_roundg k1
                          case measure => have := HK1.out; omega
                          case rel => exact ⟨(wrap64 (x7_1 + 1)), (by first | rfl | (simp; done) | (simp [*]; done)), H', ⟨by have := HK1.out; omega⟩, ⟨by repeat (first | (with_reducible first | exact HB.out | apply below_alloc | apply pw_below_drewN | apply below_drew1 | refine below_set ?_ GE125.out) | exact HB.out)⟩⟩
                        · replace c65 := Bool.eq_false_iff.mpr c65
                          subst c65
                          have H1 : (some false) = some r := by rw [if_neg (show ¬ (false = true) by decide)] at H; exact H
                          clear H
                          have H := H1
                          clear H1
                          obtain rfl := Option.some.inj H
                          have p124 : 0 ≤ (x7_1 : Int) := of_decide_eq_true (by first | (with_reducible assumption) | assumption)
                          have q124 : x7_1 < (l0.length : Int) := of_decide_eq_true (by first | (with_reducible assumption) | assumption)
                          obtain ⟨ad124, e124, hx124_0, hx124_1⟩ := at_T74 HR0.out x7_1 p124 q124
                          cases e124
                          replace hx124_0 := (HB.out.cell (World.block_lt_of_cell? w _ hx124_0)).trans hx124_0
                          replace hx124_1 := (HB.out.cell (World.block_lt_of_cell? w _ hx124_1)).trans hx124_1
                          replace p124 := eq_true p124
                          replace q124 := eq_true q124
                          try go_wp2_with (first | ((with_reducible refine gate_dst (N := 4) rfl ?_); refine box_event ?hg (N := 4) ?hd (cs := #[.int .i64 0, .int .i64 0]) (t := 74) ?hr ?_; (case hd => rfl); (case hg => rfl); (case hr => first | (go_simp; done) | (go_simp; rfl)); intro gb125 hg w70 hbox hb; have n0_ := Aside0.mk (below_step (by repeat (first | (with_reducible first | exact HB.out | apply below_alloc | apply pw_below_drewN | apply below_drew1) | exact HB.out)) hb); have n1_ := Aside0.mk (hbox); have n2_ := Aside0.mk ((by rw [hg]; exact (below_size (by repeat (first | (with_reducible first | exact HB.out | apply below_alloc | apply pw_below_drewN | apply below_drew1) | exact HB.out))) : w.heap.size ≤ gb125)); have n3_ := Aside0.mk ((by rw [hg]; exact (below_size (by repeat (first | (with_reducible first | exact HB.out | apply below_alloc | apply pw_below_drewN | apply below_drew1) | exact HB.out))) : w.heap.size ≤ gb125)); clear HB; have HB := n0_; have BK125 := n1_; have GW125 := n2_; have GE125 := n3_; clear n0_ n1_ n2_ n3_; clear hb hbox hg; have hcz71_0 : w70.cell? ⟨gb125, 0, none⟩ = some (.int .i64 0) := (blk_cell BK125.out 0).trans rfl; have hcz71_1 : w70.cell? ⟨gb125, 1, none⟩ = some (.int .i64 0) := (blk_cell BK125.out 1).trans rfl; have hfz71_0 := blk_frozen BK125.out 0; have hfz71_1 := blk_frozen BK125.out 1))
                          have n0_ : Aside0 (((w70.setCell ⟨gb125, 0, none⟩ (.int .i64 ((rd_T74 l0 x7_1).f0))).setCell ⟨gb125, 1, none⟩ (.int .i64 ((rd_T74 l0 x7_1).f1))).heap[gb125]? = some (.cells #[.int .i64 ((rd_T74 l0 x7_1).f0), .int .i64 ((rd_T74 l0 x7_1).f1)] 74 (0, 0))) := ⟨by (with_reducible repeat (first | refine blk_drewN ?_ _ | refine blk_drew ?_ | refine blk_alloc ?_ _)); refine blk_put (cs := #[.int .i64 ((rd_T74 l0 x7_1).f0), .int .i64 0]) ?_ 1 _ rfl; (with_reducible repeat (first | refine blk_drewN ?_ _ | refine blk_drew ?_ | refine blk_alloc ?_ _)); refine blk_put (cs := #[.int .i64 0, .int .i64 0]) ?_ 0 _ rfl; (with_reducible repeat (first | refine blk_drewN ?_ _ | refine blk_drew ?_ | refine blk_alloc ?_ _)); exact BK125.out⟩
                          have n1_ : Aside0 (Below w.heap.size w ((w70.setCell ⟨gb125, 0, none⟩ (.int .i64 ((rd_T74 l0 x7_1).f0))).setCell ⟨gb125, 1, none⟩ (.int .i64 ((rd_T74 l0 x7_1).f1)))) := ⟨by repeat (first | (with_reducible first | exact HB.out | apply below_alloc | apply pw_below_drewN | apply below_drew1 | refine below_set ?_ GE125.out) | exact HB.out)⟩
                          (try clear BK125)
                          (try clear HB)
                          generalize ((w70.setCell ⟨gb125, 0, none⟩ (.int .i64 ((rd_T74 l0 x7_1).f0))).setCell ⟨gb125, 1, none⟩ (.int .i64 ((rd_T74 l0 x7_1).f1))) = w72 at n0_ n1_ ⊢
                          have BK125 := n0_
                          have HB := n1_
                          clear n0_ n1_
                          have n0_ := Aside0.mk (blk_drew BK125.out)
                          have n1_ := Aside0.mk (below_drew1 HB.out)
                          clear BK125
                          clear HB
                          have BK125 := n0_
                          have HB := n1_
                          clear n0_ n1_
                          have p129 : 0 ≤ ((ji51) : Int) := of_decide_eq_true (by first | (with_reducible assumption) | assumption)
                          have q129 : (ji51) < (l0.length : Int) := of_decide_eq_true (by first | (with_reducible assumption) | assumption)
                          obtain ⟨ad129, e129, hx129_0, hx129_1⟩ := at_T74 HR0.out (ji51) p129 q129
                          have hw129_1 := hx129_1
                          have hw129_0 := hx129_0
                          obtain rfl : ad124 = ad129 := (by injection e129)
                          replace hx129_0 := (HB.out.cell (World.block_lt_of_cell? w _ hx129_0)).trans hx129_0
                          replace hx129_1 := (HB.out.cell (World.block_lt_of_cell? w _ hx129_1)).trans hx129_1
                          replace p129 := eq_true p129
                          replace q129 := eq_true q129
                          have hq0_ : w72.cell? ⟨gb125, 0, none⟩ = some (.int .i64 ((rd_T74 l0 x7_1).f0)) := (blk_cell BK125.out 0).trans rfl
                          have hq1_ : w72.cell? ⟨gb125, 1, none⟩ = some (.int .i64 ((rd_T74 l0 x7_1).f1)) := (blk_cell BK125.out 1).trans rfl
                          have hq2_ : w72.cell? (ad124.add (((ji51)).toNat * 2)) = some (.int .i64 ((rd_T74 l0 (ji51)).f0)) := ((HB.out.cell (World.block_lt_of_cell? w _ hw129_0)).trans hw129_0)
                          have hq3_ : w72.cell? ⟨(ad124.add (((ji51)).toNat * 2)).block, (ad124.add (((ji51)).toNat * 2)).off + 1, none⟩ = some (.int .i64 ((rd_T74 l0 (ji51)).f1)) := ((HB.out.cell (World.block_lt_of_cell? w _ hw129_1)).trans hw129_1)
                          go_quiet ((first | (go_at_call 66; apply Calls.quiet_of; ((with_reducible refine (impl_InRange.calls ((rd_T74 l0 x7_1).f1) 20 300 false _ A64.out).mono ?_); exact fun _ _ h_ => ⟨h_.1, h_.2.out⟩))))
                          have nBK125_ := Aside0.mk (blk_drewN (w := w72) BK125.out nq)
                          have nHB_ := Aside0.mk (pw_below_drewN (W := w72) ⟨HB.out.os, HB.out.tape, HB.out.output, HB.out.size, HB.out.block⟩ nq)
                          have nhx129_0_ : (w72.drewN nq).cell? _ = _ := hx129_0
                          have nhx129_1_ : (w72.drewN nq).cell? _ = _ := hx129_1
                          clear BK125 HB hx129_0 hx129_1 hq0_ hq1_ hq2_ hq3_
                          have BK125 := nBK125_
                          have HB := nHB_
                          have hx129_0 := nhx129_0_
                          have hx129_1 := nhx129_1_
                          clear nBK125_ nHB_ nhx129_0_ nhx129_1_
                          generalize w72.drewN nq = w73 at BK125 HB hx129_0 hx129_1 ⊢
                          try go_wp2
                          go_ret
                          exact ⟨by first | rfl | (simp [errW_none, errW_some] <;> rfl) | (simp only [← hji51]; first | rfl | (simp [errW_none, errW_some] <;> rfl)) | (simp [*, errW_none, errW_some] <;> rfl), by repeat (first | (with_reducible first | exact HB.out | apply below_alloc | apply pw_below_drewN | apply below_drew1 | refine below_set ?_ GE125.out) | exact HB.out)⟩
                  · rw [if_neg c53] at H
                    exact absurd H (by simp)
                · rw [if_neg c52] at H
                  exact absurd H (by simp)
              · rw [if_neg c50] at H
                have c50b0 : decide (0 < x7_1) = false := decide_eq_false c50
                clear c50
                by_cases c74 : ((rd_T74 l0 x7_1).f0) > 2000
                · rw [if_pos c74] at H
                  have c74b0 : decide (2000 < ((rd_T74 l0 x7_1).f0)) = true := decide_eq_true c74
                  clear c74
                  obtain rfl := Option.some.inj H
                  have p124 : 0 ≤ (x7_1 : Int) := of_decide_eq_true (by first | (with_reducible assumption) | assumption)
                  have q124 : x7_1 < (l0.length : Int) := of_decide_eq_true (by first | (with_reducible assumption) | assumption)
                  obtain ⟨ad124, e124, hx124_0, hx124_1⟩ := at_T74 HR0.out x7_1 p124 q124
                  cases e124
                  replace hx124_0 := (HB.out.cell (World.block_lt_of_cell? w _ hx124_0)).trans hx124_0
                  replace hx124_1 := (HB.out.cell (World.block_lt_of_cell? w _ hx124_1)).trans hx124_1
                  replace p124 := eq_true p124
                  replace q124 := eq_true q124
                  try go_wp2_with (first | ((with_reducible refine gate_dst (N := 4) rfl ?_); refine box_event ?hg (N := 4) ?hd (cs := #[.int .i64 0, .int .i64 0]) (t := 74) ?hr ?_; (case hd => rfl); (case hg => rfl); (case hr => first | (go_simp; done) | (go_simp; rfl)); intro gb125 hg w75 hbox hb; have n0_ := Aside0.mk (below_step (by repeat (first | (with_reducible first | exact HB.out | apply below_alloc | apply pw_below_drewN | apply below_drew1) | exact HB.out)) hb); have n1_ := Aside0.mk (hbox); have n2_ := Aside0.mk ((by rw [hg]; exact (below_size (by repeat (first | (with_reducible first | exact HB.out | apply below_alloc | apply pw_below_drewN | apply below_drew1) | exact HB.out))) : w.heap.size ≤ gb125)); have n3_ := Aside0.mk ((by rw [hg]; exact (below_size (by repeat (first | (with_reducible first | exact HB.out | apply below_alloc | apply pw_below_drewN | apply below_drew1) | exact HB.out))) : w.heap.size ≤ gb125)); clear HB; have HB := n0_; have BK125 := n1_; have GW125 := n2_; have GE125 := n3_; clear n0_ n1_ n2_ n3_; clear hb hbox hg; have hcz76_0 : w75.cell? ⟨gb125, 0, none⟩ = some (.int .i64 0) := (blk_cell BK125.out 0).trans rfl; have hcz76_1 : w75.cell? ⟨gb125, 1, none⟩ = some (.int .i64 0) := (blk_cell BK125.out 1).trans rfl; have hfz76_0 := blk_frozen BK125.out 0; have hfz76_1 := blk_frozen BK125.out 1))
                  have n0_ : Aside0 (((w75.setCell ⟨gb125, 0, none⟩ (.int .i64 ((rd_T74 l0 x7_1).f0))).setCell ⟨gb125, 1, none⟩ (.int .i64 ((rd_T74 l0 x7_1).f1))).heap[gb125]? = some (.cells #[.int .i64 ((rd_T74 l0 x7_1).f0), .int .i64 ((rd_T74 l0 x7_1).f1)] 74 (0, 0))) := ⟨by (with_reducible repeat (first | refine blk_drewN ?_ _ | refine blk_drew ?_ | refine blk_alloc ?_ _)); refine blk_put (cs := #[.int .i64 ((rd_T74 l0 x7_1).f0), .int .i64 0]) ?_ 1 _ rfl; (with_reducible repeat (first | refine blk_drewN ?_ _ | refine blk_drew ?_ | refine blk_alloc ?_ _)); refine blk_put (cs := #[.int .i64 0, .int .i64 0]) ?_ 0 _ rfl; (with_reducible repeat (first | refine blk_drewN ?_ _ | refine blk_drew ?_ | refine blk_alloc ?_ _)); exact BK125.out⟩
                  have n1_ : Aside0 (Below w.heap.size w ((w75.setCell ⟨gb125, 0, none⟩ (.int .i64 ((rd_T74 l0 x7_1).f0))).setCell ⟨gb125, 1, none⟩ (.int .i64 ((rd_T74 l0 x7_1).f1)))) := ⟨by repeat (first | (with_reducible first | exact HB.out | apply below_alloc | apply pw_below_drewN | apply below_drew1 | refine below_set ?_ GE125.out) | exact HB.out)⟩
                  (try clear BK125)
                  (try clear HB)
                  generalize ((w75.setCell ⟨gb125, 0, none⟩ (.int .i64 ((rd_T74 l0 x7_1).f0))).setCell ⟨gb125, 1, none⟩ (.int .i64 ((rd_T74 l0 x7_1).f1))) = w77 at n0_ n1_ ⊢
                  have BK125 := n0_
                  have HB := n1_
                  clear n0_ n1_
                  have n0_ := Aside0.mk (blk_drew BK125.out)
                  have n1_ := Aside0.mk (below_drew1 HB.out)
                  clear BK125
                  clear HB
                  have BK125 := n0_
                  have HB := n1_
                  clear n0_ n1_
                  have hq0_ : w77.cell? ⟨gb125, 0, none⟩ = some (.int .i64 ((rd_T74 l0 x7_1).f0)) := (blk_cell BK125.out 0).trans rfl
                  have hq1_ : w77.cell? ⟨gb125, 1, none⟩ = some (.int .i64 ((rd_T74 l0 x7_1).f1)) := (blk_cell BK125.out 1).trans rfl
                  go_quiet (fail)
                  have nBK125_ := Aside0.mk (blk_drewN (w := w77) BK125.out nq)
                  have nHB_ := Aside0.mk (pw_below_drewN (W := w77) ⟨HB.out.os, HB.out.tape, HB.out.output, HB.out.size, HB.out.block⟩ nq)
                  clear BK125 HB hq0_ hq1_
                  have BK125 := nBK125_
                  have HB := nHB_
                  clear nBK125_ nHB_
                  generalize w77.drewN nq = w78 at BK125 HB ⊢
                  try go_wp2
                  go_ret
                  exact ⟨by first | rfl | (simp [errW_none, errW_some] <;> rfl) | (simp [*, errW_none, errW_some] <;> rfl), by repeat (first | (with_reducible first | exact HB.out | apply below_alloc | apply pw_below_drewN | apply below_drew1 | refine below_set ?_ GE125.out) | exact HB.out)⟩
                · rw [if_neg c74] at H
                  have c74b0 : decide (2000 < ((rd_T74 l0 x7_1).f0)) = false := decide_eq_false c74
                  clear c74
                  replace H := Option.bind_eq_some_iff.mp H
                  obtain ⟨t131, A790, H⟩ := H
                  replace H : (if t131 = true then (impl_IsTempo.l0 k1 l0 l0 (l0.length : Int) (wrap64 (x7_1 + 1))) else (some false)) = some r := H
                  have A79 := Aside0.mk A790
                  clear A790
                  by_cases c80 : t131 = true
                  · subst c80
                    have H1 : (impl_IsTempo.l0 k1 l0 l0 (l0.length : Int) (wrap64 (x7_1 + 1))) = some r := by rw [if_pos rfl] at H; exact H
                    clear H
                    have H := H1
                    clear H1
                    have H' := Aside0.mk H
                    clear H
                    have p124 : 0 ≤ (x7_1 : Int) := of_decide_eq_true (by first | (with_reducible assumption) | assumption)
                    have q124 : x7_1 < (l0.length : Int) := of_decide_eq_true (by first | (with_reducible assumption) | assumption)
                    obtain ⟨ad124, e124, hx124_0, hx124_1⟩ := at_T74 HR0.out x7_1 p124 q124
                    cases e124
                    replace hx124_0 := (HB.out.cell (World.block_lt_of_cell? w _ hx124_0)).trans hx124_0
                    replace hx124_1 := (HB.out.cell (World.block_lt_of_cell? w _ hx124_1)).trans hx124_1
                    replace p124 := eq_true p124
                    replace q124 := eq_true q124
                    try go_wp2_with (first | ((with_reducible refine gate_dst (N := 4) rfl ?_); refine box_event ?hg (N := 4) ?hd (cs := #[.int .i64 0, .int .i64 0]) (t := 74) ?hr ?_; (case hd => rfl); (case hg => rfl); (case hr => first | (go_simp; done) | (go_simp; rfl)); intro gb125 hg w81 hbox hb; have n0_ := Aside0.mk (below_step (by repeat (first | (with_reducible first | exact HB.out | apply below_alloc | apply pw_below_drewN | apply below_drew1) | exact HB.out)) hb); have n1_ := Aside0.mk (hbox); have n2_ := Aside0.mk ((by rw [hg]; exact (below_size (by repeat (first | (with_reducible first | exact HB.out | apply below_alloc | apply pw_below_drewN | apply below_drew1) | exact HB.out))) : w.heap.size ≤ gb125)); have n3_ := Aside0.mk ((by rw [hg]; exact (below_size (by repeat (first | (with_reducible first | exact HB.out | apply below_alloc | apply pw_below_drewN | apply below_drew1) | exact HB.out))) : w.heap.size ≤ gb125)); clear HB; have HB := n0_; have BK125 := n1_; have GW125 := n2_; have GE125 := n3_; clear n0_ n1_ n2_ n3_; clear hb hbox hg; have hcz82_0 : w81.cell? ⟨gb125, 0, none⟩ = some (.int .i64 0) := (blk_cell BK125.out 0).trans rfl; have hcz82_1 : w81.cell? ⟨gb125, 1, none⟩ = some (.int .i64 0) := (blk_cell BK125.out 1).trans rfl; have hfz82_0 := blk_frozen BK125.out 0; have hfz82_1 := blk_frozen BK125.out 1))
                    have n0_ : Aside0 (((w81.setCell ⟨gb125, 0, none⟩ (.int .i64 ((rd_T74 l0 x7_1).f0))).setCell ⟨gb125, 1, none⟩ (.int .i64 ((rd_T74 l0 x7_1).f1))).heap[gb125]? = some (.cells #[.int .i64 ((rd_T74 l0 x7_1).f0), .int .i64 ((rd_T74 l0 x7_1).f1)] 74 (0, 0))) := ⟨by (with_reducible repeat (first | refine blk_drewN ?_ _ | refine blk_drew ?_ | refine blk_alloc ?_ _)); refine blk_put (cs := #[.int .i64 ((rd_T74 l0 x7_1).f0), .int .i64 0]) ?_ 1 _ rfl; (with_reducible repeat (first | refine blk_drewN ?_ _ | refine blk_drew ?_ | refine blk_alloc ?_ _)); refine blk_put (cs := #[.int .i64 0, .int .i64 0]) ?_ 0 _ rfl; (with_reducible repeat (first | refine blk_drewN ?_ _ | refine blk_drew ?_ | refine blk_alloc ?_ _)); exact BK125.out⟩
                    have n1_ : Aside0 (Below w.heap.size w ((w81.setCell ⟨gb125, 0, none⟩ (.int .i64 ((rd_T74 l0 x7_1).f0))).setCell ⟨gb125, 1, none⟩ (.int .i64 ((rd_T74 l0 x7_1).f1)))) := ⟨by repeat (first | (with_reducible first | exact HB.out | apply below_alloc | apply pw_below_drewN | apply below_drew1 | refine below_set ?_ GE125.out) | exact HB.out)⟩
                    (try clear BK125)
                    (try clear HB)
                    generalize ((w81.setCell ⟨gb125, 0, none⟩ (.int .i64 ((rd_T74 l0 x7_1).f0))).setCell ⟨gb125, 1, none⟩ (.int .i64 ((rd_T74 l0 x7_1).f1))) = w83 at n0_ n1_ ⊢
                    have BK125 := n0_
                    have HB := n1_
                    clear n0_ n1_
                    have n0_ := Aside0.mk (blk_drew BK125.out)
                    have n1_ := Aside0.mk (below_drew1 HB.out)
                    clear BK125
                    clear HB
                    have BK125 := n0_
                    have HB := n1_
                    clear n0_ n1_
                    have hq0_ : w83.cell? ⟨gb125, 0, none⟩ = some (.int .i64 ((rd_T74 l0 x7_1).f0)) := (blk_cell BK125.out 0).trans rfl
                    have hq1_ : w83.cell? ⟨gb125, 1, none⟩ = some (.int .i64 ((rd_T74 l0 x7_1).f1)) := (blk_cell BK125.out 1).trans rfl
                    go_quiet ((first | (go_at_call 66; apply Calls.quiet_of; ((with_reducible refine (impl_InRange.calls ((rd_T74 l0 x7_1).f1) 20 300 true _ A79.out).mono ?_); exact fun _ _ h_ => ⟨h_.1, h_.2.out⟩))))
                    have nBK125_ := Aside0.mk (blk_drewN (w := w83) BK125.out nq)
                    have nHB_ := Aside0.mk (pw_below_drewN (W := w83) ⟨HB.out.os, HB.out.tape, HB.out.output, HB.out.size, HB.out.block⟩ nq)
                    clear BK125 HB hq0_ hq1_
                    have BK125 := nBK125_
                    have HB := nHB_
                    clear nBK125_ nHB_
                    generalize w83.drewN nq = w84 at BK125 HB ⊢
                    try go_wp2
                    go_roundg k1
                    case measure => have := HK1.out; omega
                    case rel => exact ⟨(wrap64 (x7_1 + 1)), (by first | rfl | (simp; done) | (simp [*]; done)), H', ⟨by have := HK1.out; omega⟩, ⟨by repeat (first | (with_reducible first | exact HB.out | apply below_alloc | apply pw_below_drewN | apply below_drew1 | refine below_set ?_ GE125.out) | exact HB.out)⟩⟩
                  · replace c80 := Bool.eq_false_iff.mpr c80
                    subst c80
                    have H1 : (some false) = some r := by rw [if_neg (show ¬ (false = true) by decide)] at H; exact H
                    clear H
                    have H := H1
                    clear H1
                    obtain rfl := Option.some.inj H
                    have p124 : 0 ≤ (x7_1 : Int) := of_decide_eq_true (by first | (with_reducible assumption) | assumption)
                    have q124 : x7_1 < (l0.length : Int) := of_decide_eq_true (by first | (with_reducible assumption) | assumption)
                    obtain ⟨ad124, e124, hx124_0, hx124_1⟩ := at_T74 HR0.out x7_1 p124 q124
                    cases e124
                    replace hx124_0 := (HB.out.cell (World.block_lt_of_cell? w _ hx124_0)).trans hx124_0
                    replace hx124_1 := (HB.out.cell (World.block_lt_of_cell? w _ hx124_1)).trans hx124_1
                    replace p124 := eq_true p124
                    replace q124 := eq_true q124
                    try go_wp2_with (first | ((with_reducible refine gate_dst (N := 4) rfl ?_); refine box_event ?hg (N := 4) ?hd (cs := #[.int .i64 0, .int .i64 0]) (t := 74) ?hr ?_; (case hd => rfl); (case hg => rfl); (case hr => first | (go_simp; done) | (go_simp; rfl)); intro gb125 hg w85 hbox hb; have n0_ := Aside0.mk (below_step (by repeat (first | (with_reducible first | exact HB.out | apply below_alloc | apply pw_below_drewN | apply below_drew1) | exact HB.out)) hb); have n1_ := Aside0.mk (hbox); have n2_ := Aside0.mk ((by rw [hg]; exact (below_size (by repeat (first | (with_reducible first | exact HB.out | apply below_alloc | apply pw_below_drewN | apply below_drew1) | exact HB.out))) : w.heap.size ≤ gb125)); have n3_ := Aside0.mk ((by rw [hg]; exact (below_size (by repeat (first | (with_reducible first | exact HB.out | apply below_alloc | apply pw_below_drewN | apply below_drew1) | exact HB.out))) : w.heap.size ≤ gb125)); clear HB; have HB := n0_; have BK125 := n1_; have GW125 := n2_; have GE125 := n3_; clear n0_ n1_ n2_ n3_; clear hb hbox hg; have hcz86_0 : w85.cell? ⟨gb125, 0, none⟩ = some (.int .i64 0) := (blk_cell BK125.out 0).trans rfl; have hcz86_1 : w85.cell? ⟨gb125, 1, none⟩ = some (.int .i64 0) := (blk_cell BK125.out 1).trans rfl; have hfz86_0 := blk_frozen BK125.out 0; have hfz86_1 := blk_frozen BK125.out 1))
                    have n0_ : Aside0 (((w85.setCell ⟨gb125, 0, none⟩ (.int .i64 ((rd_T74 l0 x7_1).f0))).setCell ⟨gb125, 1, none⟩ (.int .i64 ((rd_T74 l0 x7_1).f1))).heap[gb125]? = some (.cells #[.int .i64 ((rd_T74 l0 x7_1).f0), .int .i64 ((rd_T74 l0 x7_1).f1)] 74 (0, 0))) := ⟨by (with_reducible repeat (first | refine blk_drewN ?_ _ | refine blk_drew ?_ | refine blk_alloc ?_ _)); refine blk_put (cs := #[.int .i64 ((rd_T74 l0 x7_1).f0), .int .i64 0]) ?_ 1 _ rfl; (with_reducible repeat (first | refine blk_drewN ?_ _ | refine blk_drew ?_ | refine blk_alloc ?_ _)); refine blk_put (cs := #[.int .i64 0, .int .i64 0]) ?_ 0 _ rfl; (with_reducible repeat (first | refine blk_drewN ?_ _ | refine blk_drew ?_ | refine blk_alloc ?_ _)); exact BK125.out⟩
                    have n1_ : Aside0 (Below w.heap.size w ((w85.setCell ⟨gb125, 0, none⟩ (.int .i64 ((rd_T74 l0 x7_1).f0))).setCell ⟨gb125, 1, none⟩ (.int .i64 ((rd_T74 l0 x7_1).f1)))) := ⟨by repeat (first | (with_reducible first | exact HB.out | apply below_alloc | apply pw_below_drewN | apply below_drew1 | refine below_set ?_ GE125.out) | exact HB.out)⟩
                    (try clear BK125)
                    (try clear HB)
                    generalize ((w85.setCell ⟨gb125, 0, none⟩ (.int .i64 ((rd_T74 l0 x7_1).f0))).setCell ⟨gb125, 1, none⟩ (.int .i64 ((rd_T74 l0 x7_1).f1))) = w87 at n0_ n1_ ⊢
                    have BK125 := n0_
                    have HB := n1_
                    clear n0_ n1_
                    have n0_ := Aside0.mk (blk_drew BK125.out)
                    have n1_ := Aside0.mk (below_drew1 HB.out)
                    clear BK125
                    clear HB
                    have BK125 := n0_
                    have HB := n1_
                    clear n0_ n1_
                    have hq0_ : w87.cell? ⟨gb125, 0, none⟩ = some (.int .i64 ((rd_T74 l0 x7_1).f0)) := (blk_cell BK125.out 0).trans rfl
                    have hq1_ : w87.cell? ⟨gb125, 1, none⟩ = some (.int .i64 ((rd_T74 l0 x7_1).f1)) := (blk_cell BK125.out 1).trans rfl
                    go_quiet ((first | (go_at_call 66; apply Calls.quiet_of; ((with_reducible refine (impl_InRange.calls ((rd_T74 l0 x7_1).f1) 20 300 false _ A79.out).mono ?_); exact fun _ _ h_ => ⟨h_.1, h_.2.out⟩))))
                    have nBK125_ := Aside0.mk (blk_drewN (w := w87) BK125.out nq)
                    have nHB_ := Aside0.mk (pw_below_drewN (W := w87) ⟨HB.out.os, HB.out.tape, HB.out.output, HB.out.size, HB.out.block⟩ nq)
                    clear BK125 HB hq0_ hq1_
                    have BK125 := nBK125_
                    have HB := nHB_
                    clear nBK125_ nHB_
                    generalize w87.drewN nq = w88 at BK125 HB ⊢
                    try go_wp2
                    go_ret
                    exact ⟨by first | rfl | (simp [errW_none, errW_some] <;> rfl) | (simp [*, errW_none, errW_some] <;> rfl), by repeat (first | (with_reducible first | exact HB.out | apply below_alloc | apply pw_below_drewN | apply below_drew1 | refine below_set ?_ GE125.out) | exact HB.out)⟩
          · rw [if_neg c4] at H
            exact absurd H (by simp)
        · rw [if_neg c3] at H
          exact absurd H (by simp)
      · rw [if_neg c2] at H
        have c2b0 : decide (x7_1 < (l0.length : Int)) = false := decide_eq_false c2
        clear c2
        replace H := Option.bind_eq_some_iff.mp H
        obtain ⟨t132, A890, H⟩ := H
        replace H : (some t132) = some r := H
        have A89 := Aside0.mk A890
        clear A890
        obtain rfl := Option.some.inj H
        go_wp2_with (first | ((with_reducible refine gate_callee (f := 66) rfl ?_); refine goesL_ (some 48) rfl rfl Try.func66 (by kernel_rfl) rfl #[.int .i64 (l0.length : Int), .int .i64 1, .int .i64 8] rfl (by (try simp only [List.map_toArray, List.map_cons, List.map_nil]); first | done | rfl | (simp only [List.length_drop, List.length_take]; rfl)) ?_; (with_reducible refine (impl_InRange.calls (l0.length : Int) 1 8 t132 _ A89.out).mono ?_); rintro e w' ⟨rfl, ⟨nd, rfl⟩⟩; refine ⟨_, rfl, ?_⟩))
        go_ret
        exact ⟨by first | rfl | (simp [errW_none, errW_some] <;> rfl) | (simp [*, errW_none, errW_some] <;> rfl), by repeat (first | (with_reducible first | exact HB.out | apply below_alloc | apply pw_below_drewN | apply below_drew1) | exact HB.out)⟩

end Go.Proofs.Ytinbdgngpkbgcaa.F
