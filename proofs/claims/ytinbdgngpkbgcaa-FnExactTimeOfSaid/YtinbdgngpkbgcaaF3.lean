-- Written for this claim by the kit's print.py out of the translation, called by wip/tools/fprint.py. Lean checks it.
import Derived.Test.YtinbdgngpkbgcaaF0
import Derived.Test.YtinbdgngpkbgcaaF2
namespace Go.Proofs.Ytinbdgngpkbgcaa.F
open Go.RowKit Go.Proofs.YtinbdgngpkbgcaaW.PrintWords Go.Proofs.YtinbdgngpkbgcaaW.PrintLast Go.Proofs.YtinbdgngpkbgcaaW.PrintMore
attribute [local go_sem] max2_int min2_int max_two min_two max_three min_three max_four min_four   -- for this text's walks alone
set_option linter.unusedVariables false
set_option linter.unusedSimpArgs false

/-! ### spec_IsTempo: function 60 -/
def spec_IsTempo.l0 : Nat → List (S74) → Int → Option (Bool)
  | 0, _, _ => none
  | k + 1, x0, x3 => if x3 < (x0.length : Int) then (if 0 ≤ x3 then ((spec_l1In.f ((rd_T74 x0 x3).f1) 20 300).bind fun t103 => (if t103 = true then ((spec_l1In.f ((rd_T74 x0 x3).f0) 0 2000).bind fun t105 => (if t105 = true then (if x3 = 0 then (if ((rd_T74 x0 x3).f0) = 0 then (if x3 > 0 then (if 0 ≤ (wrap64 (x3 - 1)) then (if (wrap64 (x3 - 1)) < (x0.length : Int) then (if ((rd_T74 x0 (wrap64 (x3 - 1))).f0) ≥ ((rd_T74 x0 x3).f0) then (some false) else (spec_IsTempo.l0 k x0 (wrap64 (x3 + 1)))) else (none)) else (none)) else (spec_IsTempo.l0 k x0 (wrap64 (x3 + 1)))) else (some false)) else (if x3 > 0 then (if 0 ≤ (wrap64 (x3 - 1)) then (if (wrap64 (x3 - 1)) < (x0.length : Int) then (if ((rd_T74 x0 (wrap64 (x3 - 1))).f0) ≥ ((rd_T74 x0 x3).f0) then (some false) else (spec_IsTempo.l0 k x0 (wrap64 (x3 + 1)))) else (none)) else (none)) else (spec_IsTempo.l0 k x0 (wrap64 (x3 + 1))))) else (some false))) else (some false))) else (none)) else ((spec_l1In.f (x0.length : Int) 1 8).bind fun t101 => (some t101))
def spec_IsTempo.f (k : Nat) (l0 : List (S74)) : Option (Bool) := spec_IsTempo.l0 k l0 0
theorem spec_IsTempo.mono_l : ∀ k, (∀ y0 y1, LeO (spec_IsTempo.l0 k y0 y1) (spec_IsTempo.l0 (k + 1) y0 y1))
  | 0 => fun _ _ r h => by simp [spec_IsTempo.l0] at h
  | k + 1 => by
    have ih0 := spec_IsTempo.mono_l k
    · intro y0 y1
      unfold spec_IsTempo.l0
      repeat' first
      | (with_reducible exact ih0 _ _)
      | (with_reducible exact LeO.refl _)
      | (with_reducible exact LeO.none _)
      | (with_reducible refine LeO.ite ?_ ?_)
      | (with_reducible refine LeO.bind ?_ (fun _ => ?_))
      | exact ih0 _ _
      | exact LeO.none _
      | refine LeO.ite ?_ ?_
      | refine LeO.bind ?_ (fun _ => ?_)
theorem spec_IsTempo.mono : ∀ a0 k, LeO (spec_IsTempo.f k a0) (spec_IsTempo.f (k + 1) a0) := by
  intro a0 k
  have ih0 := spec_IsTempo.mono_l k
  unfold spec_IsTempo.f
  repeat' first
      | (with_reducible exact ih0 _ _)
      | (with_reducible exact LeO.refl _)
      | (with_reducible exact LeO.none _)
      | (with_reducible refine LeO.ite ?_ ?_)
      | (with_reducible refine LeO.bind ?_ (fun _ => ?_))
      | exact ih0 _ _
      | exact LeO.none _
      | refine LeO.ite ?_ ?_
      | refine LeO.bind ?_ (fun _ => ?_)
def spec_IsTempo.T4 : Bool × List (List Nat × List Nat) := (true, [([], []), ([], []), ([0, 1], [0, 1]), ([2], [2]), ([3], [3]), ([4], [4]), ([5], [5]), ([6, 5], [6]), ([7], [7]), ([7], [7]), ([8, 9, 7], [7, 8, 9]), ([10, 7], [7, 10]), ([11, 7], [7, 11]), ([12, 7, 7], [7, 12]), ([13, 7], [7, 13]), ([7, 14], [7, 14]), ([15, 13], [15]), ([16], [16]), ([17, 16], [16, 17]), ([18, 16, 16], [16, 18]), ([19], [19]), ([19], [19]), ([20, 21, 19], [19, 20, 21]), ([22, 19], [19, 22]), ([23, 19], [19, 23]), ([24, 19], [19, 24]), ([19, 25, 16], [16, 19, 25]), ([16, 26], [16, 26]), ([27, 19], [27]), ([28], [28]), ([29, 28], [28, 29]), ([30, 28, 28], [28, 30]), ([31], [31]), ([31], [31]), ([33, 31], [31, 33]), ([32, 34, 31], [31, 32, 34]), ([35, 31], [31, 35]), ([36, 31], [31, 36]), ([31], [31]), ([31], [31]), ([38, 39, 31], [31, 38, 39]), ([40, 31], [31, 40]), ([41, 31], [31, 41]), ([37, 42, 31], [31, 37, 42]), ([31, 43, 28], [28, 31, 43]), ([28, 44], [28, 44])])
def spec_IsTempo.B4 : List Nat := [0, 0, 3, 7, 15, 31, 63, 127, 255, 255, 1023, 2047, 4095, 8191, 16383, 32767, 65535, 131071, 262143, 524287, 1048575, 1048575, 4194303, 8388607, 16777215, 33554431, 67108863, 134217727, 268435455, 536870911, 1073741823, 2147483647, 4294967295, 4294967295, 12884901887, 34359738367, 68719476735, 137438953471, 4294967295, 4294967295, 828928688127, 1928440315903, 4127463571455, 8796093022207, 17592186044415, 35184372088831]
theorem spec_IsTempo.tab4 : rtab .any (opsOf Try.f60 4) = spec_IsTempo.T4 := by kernel_rfl
theorem spec_IsTempo.bits4 : waitsOk spec_IsTempo.T4.2 spec_IsTempo.B4 = true := by kernel_rfl
set_option maxHeartbeats 8000000 in
set_option maxRecDepth 100000 in
theorem spec_IsTempo.calls (k : Nat) (A0 : Option Addr) (c0 : Nat) (l0 : List (S74)) (r : Bool) (w : World) (hr0 : Kd.C k74 w A0 l0.length l0) (hc0 : l0.length ≤ c0) (h : spec_IsTempo.f k l0 = some r) :
    Calls Try.prog 60 #[.slice A0 l0.length c0] w fun e w' => e = .returned (.bool r) ∧ Below w.heap.size w w' := by
  have HR0 := Aside0.mk hr0
  have HC0 := Aside0.mk hc0
  clear hr0 hc0
  have HB := Aside0.mk (Below.refl w.heap.size w)
  have H : (spec_IsTempo.l0 k l0 0) = some r := h
  clear h
  have H' := Aside0.mk H
  clear H
  go_enter Try.func60, Try.ntmps60
  go_wp2
  go_loopg [3] k (fun kq v3 w' => ∃ (x3_1 : Int), v3 = .int .i64 x3_1 ∧ Aside0 (spec_IsTempo.l0 kq l0 x3_1 = some r) ∧ Aside0 (kq ≤ k) ∧ Aside0 (Below w.heap.size w w'))
  case atStart => exact ⟨(0), (by first | rfl | (simp; done) | (simp [*]; done)), H', ⟨Nat.le_refl _⟩, ⟨by repeat (first | (with_reducible first | exact HB.out | apply below_alloc | apply pw_below_drewN | apply below_drew1) | exact HB.out)⟩⟩
  case round =>
    clear H'
    obtain ⟨x3_1, rfl, HA, HK1, HB⟩ := hrel
    cases gk with
    | zero => exact absurd HA.out (by simp [spec_IsTempo.l0])
    | succ k1 =>
      have H := HA.out
      clear HA
      simp only [spec_IsTempo.l0] at H
      by_cases c2 : x3_1 < (l0.length : Int)
      · rw [if_pos c2] at H
        have c2b0 : decide (x3_1 < (l0.length : Int)) = true := decide_eq_true c2
        clear c2
        by_cases c3 : 0 ≤ x3_1
        · rw [if_pos c3] at H
          have c3b0 : decide (0 ≤ x3_1) = true := decide_eq_true c3
          clear c3
          replace H := Option.bind_eq_some_iff.mp H
          obtain ⟨t103, A40, H⟩ := H
          replace H : (if t103 = true then ((spec_l1In.f ((rd_T74 l0 x3_1).f0) 0 2000).bind fun t105 => (if t105 = true then (if x3_1 = 0 then (if ((rd_T74 l0 x3_1).f0) = 0 then (if x3_1 > 0 then (if 0 ≤ (wrap64 (x3_1 - 1)) then (if (wrap64 (x3_1 - 1)) < (l0.length : Int) then (if ((rd_T74 l0 (wrap64 (x3_1 - 1))).f0) ≥ ((rd_T74 l0 x3_1).f0) then (some false) else (spec_IsTempo.l0 k1 l0 (wrap64 (x3_1 + 1)))) else (none)) else (none)) else (spec_IsTempo.l0 k1 l0 (wrap64 (x3_1 + 1)))) else (some false)) else (if x3_1 > 0 then (if 0 ≤ (wrap64 (x3_1 - 1)) then (if (wrap64 (x3_1 - 1)) < (l0.length : Int) then (if ((rd_T74 l0 (wrap64 (x3_1 - 1))).f0) ≥ ((rd_T74 l0 x3_1).f0) then (some false) else (spec_IsTempo.l0 k1 l0 (wrap64 (x3_1 + 1)))) else (none)) else (none)) else (spec_IsTempo.l0 k1 l0 (wrap64 (x3_1 + 1))))) else (some false))) else (some false)) = some r := H
          have A4 := Aside0.mk A40
          clear A40
          by_cases c5 : t103 = true
          · subst c5
            have H1 : ((spec_l1In.f ((rd_T74 l0 x3_1).f0) 0 2000).bind fun t105 => (if t105 = true then (if x3_1 = 0 then (if ((rd_T74 l0 x3_1).f0) = 0 then (if x3_1 > 0 then (if 0 ≤ (wrap64 (x3_1 - 1)) then (if (wrap64 (x3_1 - 1)) < (l0.length : Int) then (if ((rd_T74 l0 (wrap64 (x3_1 - 1))).f0) ≥ ((rd_T74 l0 x3_1).f0) then (some false) else (spec_IsTempo.l0 k1 l0 (wrap64 (x3_1 + 1)))) else (none)) else (none)) else (spec_IsTempo.l0 k1 l0 (wrap64 (x3_1 + 1)))) else (some false)) else (if x3_1 > 0 then (if 0 ≤ (wrap64 (x3_1 - 1)) then (if (wrap64 (x3_1 - 1)) < (l0.length : Int) then (if ((rd_T74 l0 (wrap64 (x3_1 - 1))).f0) ≥ ((rd_T74 l0 x3_1).f0) then (some false) else (spec_IsTempo.l0 k1 l0 (wrap64 (x3_1 + 1)))) else (none)) else (none)) else (spec_IsTempo.l0 k1 l0 (wrap64 (x3_1 + 1))))) else (some false))) = some r := by rw [if_pos rfl] at H; exact H
            clear H
            have H := H1
            clear H1
            replace H := Option.bind_eq_some_iff.mp H
            obtain ⟨t105, A60, H⟩ := H
            replace H : (if t105 = true then (if x3_1 = 0 then (if ((rd_T74 l0 x3_1).f0) = 0 then (if x3_1 > 0 then (if 0 ≤ (wrap64 (x3_1 - 1)) then (if (wrap64 (x3_1 - 1)) < (l0.length : Int) then (if ((rd_T74 l0 (wrap64 (x3_1 - 1))).f0) ≥ ((rd_T74 l0 x3_1).f0) then (some false) else (spec_IsTempo.l0 k1 l0 (wrap64 (x3_1 + 1)))) else (none)) else (none)) else (spec_IsTempo.l0 k1 l0 (wrap64 (x3_1 + 1)))) else (some false)) else (if x3_1 > 0 then (if 0 ≤ (wrap64 (x3_1 - 1)) then (if (wrap64 (x3_1 - 1)) < (l0.length : Int) then (if ((rd_T74 l0 (wrap64 (x3_1 - 1))).f0) ≥ ((rd_T74 l0 x3_1).f0) then (some false) else (spec_IsTempo.l0 k1 l0 (wrap64 (x3_1 + 1)))) else (none)) else (none)) else (spec_IsTempo.l0 k1 l0 (wrap64 (x3_1 + 1))))) else (some false)) = some r := H
            have A6 := Aside0.mk A60
            clear A60
            by_cases c7 : t105 = true
            · subst c7
              have H1 : (if x3_1 = 0 then (if ((rd_T74 l0 x3_1).f0) = 0 then (if x3_1 > 0 then (if 0 ≤ (wrap64 (x3_1 - 1)) then (if (wrap64 (x3_1 - 1)) < (l0.length : Int) then (if ((rd_T74 l0 (wrap64 (x3_1 - 1))).f0) ≥ ((rd_T74 l0 x3_1).f0) then (some false) else (spec_IsTempo.l0 k1 l0 (wrap64 (x3_1 + 1)))) else (none)) else (none)) else (spec_IsTempo.l0 k1 l0 (wrap64 (x3_1 + 1)))) else (some false)) else (if x3_1 > 0 then (if 0 ≤ (wrap64 (x3_1 - 1)) then (if (wrap64 (x3_1 - 1)) < (l0.length : Int) then (if ((rd_T74 l0 (wrap64 (x3_1 - 1))).f0) ≥ ((rd_T74 l0 x3_1).f0) then (some false) else (spec_IsTempo.l0 k1 l0 (wrap64 (x3_1 + 1)))) else (none)) else (none)) else (spec_IsTempo.l0 k1 l0 (wrap64 (x3_1 + 1))))) = some r := by rw [if_pos rfl] at H; exact H
              clear H
              have H := H1
              clear H1
              by_cases c8 : x3_1 = 0
              · rw [if_pos c8] at H
                have c8b0 : (x3_1 == 0) = true := beq_iff_eq.mpr c8
                have c8b1 : (x3_1 != 0) = false := bne_eq_false_iff_eq.mpr c8
                clear c8
                by_cases c9 : ((rd_T74 l0 x3_1).f0) = 0
                · rw [if_pos c9] at H
                  have c9b0 : (((rd_T74 l0 x3_1).f0) == 0) = true := beq_iff_eq.mpr c9
                  have c9b1 : (((rd_T74 l0 x3_1).f0) != 0) = false := bne_eq_false_iff_eq.mpr c9
                  clear c9
                  by_cases c10 : x3_1 > 0
                  · rw [if_pos c10] at H
                    have c10b0 : decide (0 < x3_1) = true := decide_eq_true c10
                    clear c10
                    obtain ⟨ji11, hji11⟩ : ∃ j_ : Int, (wrap64 (x3_1 - 1)) = j_ := ⟨_, rfl⟩
                    replace H : (if 0 ≤ (ji11) then (if (ji11) < (l0.length : Int) then (if ((rd_T74 l0 (ji11)).f0) ≥ ((rd_T74 l0 x3_1).f0) then (some false) else (spec_IsTempo.l0 k1 l0 (wrap64 (x3_1 + 1)))) else (none)) else (none)) = some r := by first | (rw [hji11] at H; exact H) | (simp only [hji11] at H ⊢; exact H)
                    (try rw [hji11] at A4)
                    (try rw [hji11] at A6)
                    have hji11w : (IntKind.i64.wrap (x3_1 - 1)) = ji11 := (i64_w _).trans hji11
                    by_cases c12 : 0 ≤ (ji11)
                    · rw [if_pos c12] at H
                      have c12b0 : decide (0 ≤ (ji11)) = true := decide_eq_true c12
                      clear c12
                      by_cases c13 : (ji11) < (l0.length : Int)
                      · rw [if_pos c13] at H
                        have c13b0 : decide ((ji11) < (l0.length : Int)) = true := decide_eq_true c13
                        clear c13
                        by_cases c14 : ((rd_T74 l0 (ji11)).f0) ≥ ((rd_T74 l0 x3_1).f0)
                        · rw [if_pos c14] at H
                          have c14b0 : decide (((rd_T74 l0 x3_1).f0) ≤ ((rd_T74 l0 (ji11)).f0)) = true := decide_eq_true c14
                          clear c14
                          obtain rfl := Option.some.inj H
                          try go_wp2
                          have n0_ := Aside0.mk (below_drew1 HB.out)
                          clear HB
                          have HB := n0_
                          clear n0_
                          have p102 : 0 ≤ (x3_1 : Int) := of_decide_eq_true (by first | (with_reducible assumption) | assumption)
                          have q102 : x3_1 < (l0.length : Int) := of_decide_eq_true (by first | (with_reducible assumption) | assumption)
                          obtain ⟨ad102, e102, hx102_0, hx102_1⟩ := at_T74 HR0.out x3_1 p102 q102
                          have hw102_1 := hx102_1
                          have hw102_0 := hx102_0
                          cases e102
                          replace hx102_0 := (HB.out.cell (World.block_lt_of_cell? w _ hx102_0)).trans hx102_0
                          replace hx102_1 := (HB.out.cell (World.block_lt_of_cell? w _ hx102_1)).trans hx102_1
                          replace p102 := eq_true p102
                          replace q102 := eq_true q102
                          have p104 : 0 ≤ (x3_1 : Int) := of_decide_eq_true (by first | (with_reducible assumption) | assumption)
                          have q104 : x3_1 < (l0.length : Int) := of_decide_eq_true (by first | (with_reducible assumption) | assumption)
                          obtain ⟨ad104, e104, hx104_0, hx104_1⟩ := at_T74 HR0.out x3_1 p104 q104
                          have hw104_1 := hx104_1
                          have hw104_0 := hx104_0
                          obtain rfl : ad102 = ad104 := (by injection e104)
                          replace hx104_0 := (HB.out.cell (World.block_lt_of_cell? w _ hx104_0)).trans hx104_0
                          replace hx104_1 := (HB.out.cell (World.block_lt_of_cell? w _ hx104_1)).trans hx104_1
                          replace p104 := eq_true p104
                          replace q104 := eq_true q104
                          have p106 : 0 ≤ (x3_1 : Int) := of_decide_eq_true (by first | (with_reducible assumption) | assumption)
                          have q106 : x3_1 < (l0.length : Int) := of_decide_eq_true (by first | (with_reducible assumption) | assumption)
                          obtain ⟨ad106, e106, hx106_0, hx106_1⟩ := at_T74 HR0.out x3_1 p106 q106
                          have hw106_1 := hx106_1
                          have hw106_0 := hx106_0
                          obtain rfl : ad102 = ad106 := (by injection e106)
                          replace hx106_0 := (HB.out.cell (World.block_lt_of_cell? w _ hx106_0)).trans hx106_0
                          replace hx106_1 := (HB.out.cell (World.block_lt_of_cell? w _ hx106_1)).trans hx106_1
                          replace p106 := eq_true p106
                          replace q106 := eq_true q106
                          have p107 : 0 ≤ ((ji11) : Int) := of_decide_eq_true (by first | (with_reducible assumption) | assumption)
                          have q107 : (ji11) < (l0.length : Int) := of_decide_eq_true (by first | (with_reducible assumption) | assumption)
                          obtain ⟨ad107, e107, hx107_0, hx107_1⟩ := at_T74 HR0.out (ji11) p107 q107
                          have hw107_1 := hx107_1
                          have hw107_0 := hx107_0
                          obtain rfl : ad102 = ad107 := (by injection e107)
                          replace hx107_0 := (HB.out.cell (World.block_lt_of_cell? w _ hx107_0)).trans hx107_0
                          replace hx107_1 := (HB.out.cell (World.block_lt_of_cell? w _ hx107_1)).trans hx107_1
                          replace p107 := eq_true p107
                          replace q107 := eq_true q107
                          have p108 : 0 ≤ (x3_1 : Int) := of_decide_eq_true (by first | (with_reducible assumption) | assumption)
                          have q108 : x3_1 < (l0.length : Int) := of_decide_eq_true (by first | (with_reducible assumption) | assumption)
                          obtain ⟨ad108, e108, hx108_0, hx108_1⟩ := at_T74 HR0.out x3_1 p108 q108
                          have hw108_1 := hx108_1
                          have hw108_0 := hx108_0
                          obtain rfl : ad102 = ad108 := (by injection e108)
                          replace hx108_0 := (HB.out.cell (World.block_lt_of_cell? w _ hx108_0)).trans hx108_0
                          replace hx108_1 := (HB.out.cell (World.block_lt_of_cell? w _ hx108_1)).trans hx108_1
                          replace p108 := eq_true p108
                          replace q108 := eq_true q108
                          have hq0_ : wr.cell? (ad102.add ((x3_1).toNat * 2)) = some (.int .i64 ((rd_T74 l0 x3_1).f0)) := ((HB.out.cell (World.block_lt_of_cell? w _ hw102_0)).trans hw102_0)
                          have hq1_ : wr.cell? ⟨(ad102.add ((x3_1).toNat * 2)).block, (ad102.add ((x3_1).toNat * 2)).off + 1, none⟩ = some (.int .i64 ((rd_T74 l0 x3_1).f1)) := ((HB.out.cell (World.block_lt_of_cell? w _ hw102_1)).trans hw102_1)
                          have hq2_ : wr.cell? (ad102.add ((x3_1).toNat * 2)) = some (.int .i64 ((rd_T74 l0 x3_1).f0)) := ((HB.out.cell (World.block_lt_of_cell? w _ hw104_0)).trans hw104_0)
                          have hq3_ : wr.cell? ⟨(ad102.add ((x3_1).toNat * 2)).block, (ad102.add ((x3_1).toNat * 2)).off + 1, none⟩ = some (.int .i64 ((rd_T74 l0 x3_1).f1)) := ((HB.out.cell (World.block_lt_of_cell? w _ hw104_1)).trans hw104_1)
                          have hq4_ : wr.cell? (ad102.add ((x3_1).toNat * 2)) = some (.int .i64 ((rd_T74 l0 x3_1).f0)) := ((HB.out.cell (World.block_lt_of_cell? w _ hw106_0)).trans hw106_0)
                          have hq5_ : wr.cell? ⟨(ad102.add ((x3_1).toNat * 2)).block, (ad102.add ((x3_1).toNat * 2)).off + 1, none⟩ = some (.int .i64 ((rd_T74 l0 x3_1).f1)) := ((HB.out.cell (World.block_lt_of_cell? w _ hw106_1)).trans hw106_1)
                          have hq6_ : wr.cell? (ad102.add (((ji11)).toNat * 2)) = some (.int .i64 ((rd_T74 l0 (ji11)).f0)) := ((HB.out.cell (World.block_lt_of_cell? w _ hw107_0)).trans hw107_0)
                          have hq7_ : wr.cell? ⟨(ad102.add (((ji11)).toNat * 2)).block, (ad102.add (((ji11)).toNat * 2)).off + 1, none⟩ = some (.int .i64 ((rd_T74 l0 (ji11)).f1)) := ((HB.out.cell (World.block_lt_of_cell? w _ hw107_1)).trans hw107_1)
                          have hq8_ : wr.cell? (ad102.add ((x3_1).toNat * 2)) = some (.int .i64 ((rd_T74 l0 x3_1).f0)) := ((HB.out.cell (World.block_lt_of_cell? w _ hw108_0)).trans hw108_0)
                          have hq9_ : wr.cell? ⟨(ad102.add ((x3_1).toNat * 2)).block, (ad102.add ((x3_1).toNat * 2)).off + 1, none⟩ = some (.int .i64 ((rd_T74 l0 x3_1).f1)) := ((HB.out.cell (World.block_lt_of_cell? w _ hw108_1)).trans hw108_1)
                          go_quiet ((first | (go_at_call 64; apply Calls.quiet_of; ((with_reducible refine (spec_l1In.calls ((rd_T74 l0 x3_1).f1) 20 300 true _ A4.out).mono ?_); exact fun _ _ h_ => ⟨h_.1, h_.2.out⟩)) | (go_at_call 64; apply Calls.quiet_of; ((with_reducible refine (spec_l1In.calls ((rd_T74 l0 x3_1).f0) 0 2000 true _ A6.out).mono ?_); exact fun _ _ h_ => ⟨h_.1, h_.2.out⟩))))
                          have nHB_ := Aside0.mk (pw_below_drewN (W := wr) ⟨HB.out.os, HB.out.tape, HB.out.output, HB.out.size, HB.out.block⟩ nq)
                          have nhx102_0_ : (wr.drewN nq).cell? _ = _ := hx102_0
                          have nhx102_1_ : (wr.drewN nq).cell? _ = _ := hx102_1
                          have nhx104_0_ : (wr.drewN nq).cell? _ = _ := hx104_0
                          have nhx104_1_ : (wr.drewN nq).cell? _ = _ := hx104_1
                          have nhx106_0_ : (wr.drewN nq).cell? _ = _ := hx106_0
                          have nhx106_1_ : (wr.drewN nq).cell? _ = _ := hx106_1
                          have nhx107_0_ : (wr.drewN nq).cell? _ = _ := hx107_0
                          have nhx107_1_ : (wr.drewN nq).cell? _ = _ := hx107_1
                          have nhx108_0_ : (wr.drewN nq).cell? _ = _ := hx108_0
                          have nhx108_1_ : (wr.drewN nq).cell? _ = _ := hx108_1
                          clear HB hx102_0 hx102_1 hx104_0 hx104_1 hx106_0 hx106_1 hx107_0 hx107_1 hx108_0 hx108_1 hq0_ hq1_ hq2_ hq3_ hq4_ hq5_ hq6_ hq7_ hq8_ hq9_
                          have HB := nHB_
                          have hx102_0 := nhx102_0_
                          have hx102_1 := nhx102_1_
                          have hx104_0 := nhx104_0_
                          have hx104_1 := nhx104_1_
                          have hx106_0 := nhx106_0_
                          have hx106_1 := nhx106_1_
                          have hx107_0 := nhx107_0_
                          have hx107_1 := nhx107_1_
                          have hx108_0 := nhx108_0_
                          have hx108_1 := nhx108_1_
                          clear nHB_ nhx102_0_ nhx102_1_ nhx104_0_ nhx104_1_ nhx106_0_ nhx106_1_ nhx107_0_ nhx107_1_ nhx108_0_ nhx108_1_
                          generalize wr.drewN nq = w15 at HB hx102_0 hx102_1 hx104_0 hx104_1 hx106_0 hx106_1 hx107_0 hx107_1 hx108_0 hx108_1 ⊢
                          try go_wp2
                          go_ret
                          exact ⟨by first | rfl | (simp [errW_none, errW_some] <;> rfl) | (simp only [← hji11]; first | rfl | (simp [errW_none, errW_some] <;> rfl)) | (simp [*, errW_none, errW_some] <;> rfl), by repeat (first | (with_reducible first | exact HB.out | apply below_alloc | apply pw_below_drewN | apply below_drew1) | exact HB.out)⟩
                        · rw [if_neg c14] at H
                          have c14b0 : decide (((rd_T74 l0 x3_1).f0) ≤ ((rd_T74 l0 (ji11)).f0)) = false := decide_eq_false c14
                          clear c14
                          have H' := Aside0.mk H
                          clear H
                          try go_wp2
                          have n0_ := Aside0.mk (below_drew1 HB.out)
                          clear HB
                          have HB := n0_
                          clear n0_
                          have p102 : 0 ≤ (x3_1 : Int) := of_decide_eq_true (by first | (with_reducible assumption) | assumption)
                          have q102 : x3_1 < (l0.length : Int) := of_decide_eq_true (by first | (with_reducible assumption) | assumption)
                          obtain ⟨ad102, e102, hx102_0, hx102_1⟩ := at_T74 HR0.out x3_1 p102 q102
                          have hw102_1 := hx102_1
                          have hw102_0 := hx102_0
                          cases e102
                          replace hx102_0 := (HB.out.cell (World.block_lt_of_cell? w _ hx102_0)).trans hx102_0
                          replace hx102_1 := (HB.out.cell (World.block_lt_of_cell? w _ hx102_1)).trans hx102_1
                          replace p102 := eq_true p102
                          replace q102 := eq_true q102
                          have p104 : 0 ≤ (x3_1 : Int) := of_decide_eq_true (by first | (with_reducible assumption) | assumption)
                          have q104 : x3_1 < (l0.length : Int) := of_decide_eq_true (by first | (with_reducible assumption) | assumption)
                          obtain ⟨ad104, e104, hx104_0, hx104_1⟩ := at_T74 HR0.out x3_1 p104 q104
                          have hw104_1 := hx104_1
                          have hw104_0 := hx104_0
                          obtain rfl : ad102 = ad104 := (by injection e104)
                          replace hx104_0 := (HB.out.cell (World.block_lt_of_cell? w _ hx104_0)).trans hx104_0
                          replace hx104_1 := (HB.out.cell (World.block_lt_of_cell? w _ hx104_1)).trans hx104_1
                          replace p104 := eq_true p104
                          replace q104 := eq_true q104
                          have p106 : 0 ≤ (x3_1 : Int) := of_decide_eq_true (by first | (with_reducible assumption) | assumption)
                          have q106 : x3_1 < (l0.length : Int) := of_decide_eq_true (by first | (with_reducible assumption) | assumption)
                          obtain ⟨ad106, e106, hx106_0, hx106_1⟩ := at_T74 HR0.out x3_1 p106 q106
                          have hw106_1 := hx106_1
                          have hw106_0 := hx106_0
                          obtain rfl : ad102 = ad106 := (by injection e106)
                          replace hx106_0 := (HB.out.cell (World.block_lt_of_cell? w _ hx106_0)).trans hx106_0
                          replace hx106_1 := (HB.out.cell (World.block_lt_of_cell? w _ hx106_1)).trans hx106_1
                          replace p106 := eq_true p106
                          replace q106 := eq_true q106
                          have p107 : 0 ≤ ((ji11) : Int) := of_decide_eq_true (by first | (with_reducible assumption) | assumption)
                          have q107 : (ji11) < (l0.length : Int) := of_decide_eq_true (by first | (with_reducible assumption) | assumption)
                          obtain ⟨ad107, e107, hx107_0, hx107_1⟩ := at_T74 HR0.out (ji11) p107 q107
                          have hw107_1 := hx107_1
                          have hw107_0 := hx107_0
                          obtain rfl : ad102 = ad107 := (by injection e107)
                          replace hx107_0 := (HB.out.cell (World.block_lt_of_cell? w _ hx107_0)).trans hx107_0
                          replace hx107_1 := (HB.out.cell (World.block_lt_of_cell? w _ hx107_1)).trans hx107_1
                          replace p107 := eq_true p107
                          replace q107 := eq_true q107
                          have p108 : 0 ≤ (x3_1 : Int) := of_decide_eq_true (by first | (with_reducible assumption) | assumption)
                          have q108 : x3_1 < (l0.length : Int) := of_decide_eq_true (by first | (with_reducible assumption) | assumption)
                          obtain ⟨ad108, e108, hx108_0, hx108_1⟩ := at_T74 HR0.out x3_1 p108 q108
                          have hw108_1 := hx108_1
                          have hw108_0 := hx108_0
                          obtain rfl : ad102 = ad108 := (by injection e108)
                          replace hx108_0 := (HB.out.cell (World.block_lt_of_cell? w _ hx108_0)).trans hx108_0
                          replace hx108_1 := (HB.out.cell (World.block_lt_of_cell? w _ hx108_1)).trans hx108_1
                          replace p108 := eq_true p108
                          replace q108 := eq_true q108
                          have hq0_ : wr.cell? (ad102.add ((x3_1).toNat * 2)) = some (.int .i64 ((rd_T74 l0 x3_1).f0)) := ((HB.out.cell (World.block_lt_of_cell? w _ hw102_0)).trans hw102_0)
                          have hq1_ : wr.cell? ⟨(ad102.add ((x3_1).toNat * 2)).block, (ad102.add ((x3_1).toNat * 2)).off + 1, none⟩ = some (.int .i64 ((rd_T74 l0 x3_1).f1)) := ((HB.out.cell (World.block_lt_of_cell? w _ hw102_1)).trans hw102_1)
                          have hq2_ : wr.cell? (ad102.add ((x3_1).toNat * 2)) = some (.int .i64 ((rd_T74 l0 x3_1).f0)) := ((HB.out.cell (World.block_lt_of_cell? w _ hw104_0)).trans hw104_0)
                          have hq3_ : wr.cell? ⟨(ad102.add ((x3_1).toNat * 2)).block, (ad102.add ((x3_1).toNat * 2)).off + 1, none⟩ = some (.int .i64 ((rd_T74 l0 x3_1).f1)) := ((HB.out.cell (World.block_lt_of_cell? w _ hw104_1)).trans hw104_1)
                          have hq4_ : wr.cell? (ad102.add ((x3_1).toNat * 2)) = some (.int .i64 ((rd_T74 l0 x3_1).f0)) := ((HB.out.cell (World.block_lt_of_cell? w _ hw106_0)).trans hw106_0)
                          have hq5_ : wr.cell? ⟨(ad102.add ((x3_1).toNat * 2)).block, (ad102.add ((x3_1).toNat * 2)).off + 1, none⟩ = some (.int .i64 ((rd_T74 l0 x3_1).f1)) := ((HB.out.cell (World.block_lt_of_cell? w _ hw106_1)).trans hw106_1)
                          have hq6_ : wr.cell? (ad102.add (((ji11)).toNat * 2)) = some (.int .i64 ((rd_T74 l0 (ji11)).f0)) := ((HB.out.cell (World.block_lt_of_cell? w _ hw107_0)).trans hw107_0)
                          have hq7_ : wr.cell? ⟨(ad102.add (((ji11)).toNat * 2)).block, (ad102.add (((ji11)).toNat * 2)).off + 1, none⟩ = some (.int .i64 ((rd_T74 l0 (ji11)).f1)) := ((HB.out.cell (World.block_lt_of_cell? w _ hw107_1)).trans hw107_1)
                          have hq8_ : wr.cell? (ad102.add ((x3_1).toNat * 2)) = some (.int .i64 ((rd_T74 l0 x3_1).f0)) := ((HB.out.cell (World.block_lt_of_cell? w _ hw108_0)).trans hw108_0)
                          have hq9_ : wr.cell? ⟨(ad102.add ((x3_1).toNat * 2)).block, (ad102.add ((x3_1).toNat * 2)).off + 1, none⟩ = some (.int .i64 ((rd_T74 l0 x3_1).f1)) := ((HB.out.cell (World.block_lt_of_cell? w _ hw108_1)).trans hw108_1)
                          go_quiet ((first | (go_at_call 64; apply Calls.quiet_of; ((with_reducible refine (spec_l1In.calls ((rd_T74 l0 x3_1).f1) 20 300 true _ A4.out).mono ?_); exact fun _ _ h_ => ⟨h_.1, h_.2.out⟩)) | (go_at_call 64; apply Calls.quiet_of; ((with_reducible refine (spec_l1In.calls ((rd_T74 l0 x3_1).f0) 0 2000 true _ A6.out).mono ?_); exact fun _ _ h_ => ⟨h_.1, h_.2.out⟩))))
                          have nHB_ := Aside0.mk (pw_below_drewN (W := wr) ⟨HB.out.os, HB.out.tape, HB.out.output, HB.out.size, HB.out.block⟩ nq)
                          have nhx102_0_ : (wr.drewN nq).cell? _ = _ := hx102_0
                          have nhx102_1_ : (wr.drewN nq).cell? _ = _ := hx102_1
                          have nhx104_0_ : (wr.drewN nq).cell? _ = _ := hx104_0
                          have nhx104_1_ : (wr.drewN nq).cell? _ = _ := hx104_1
                          have nhx106_0_ : (wr.drewN nq).cell? _ = _ := hx106_0
                          have nhx106_1_ : (wr.drewN nq).cell? _ = _ := hx106_1
                          have nhx107_0_ : (wr.drewN nq).cell? _ = _ := hx107_0
                          have nhx107_1_ : (wr.drewN nq).cell? _ = _ := hx107_1
                          have nhx108_0_ : (wr.drewN nq).cell? _ = _ := hx108_0
                          have nhx108_1_ : (wr.drewN nq).cell? _ = _ := hx108_1
                          clear HB hx102_0 hx102_1 hx104_0 hx104_1 hx106_0 hx106_1 hx107_0 hx107_1 hx108_0 hx108_1 hq0_ hq1_ hq2_ hq3_ hq4_ hq5_ hq6_ hq7_ hq8_ hq9_
                          have HB := nHB_
                          have hx102_0 := nhx102_0_
                          have hx102_1 := nhx102_1_
                          have hx104_0 := nhx104_0_
                          have hx104_1 := nhx104_1_
                          have hx106_0 := nhx106_0_
                          have hx106_1 := nhx106_1_
                          have hx107_0 := nhx107_0_
                          have hx107_1 := nhx107_1_
                          have hx108_0 := nhx108_0_
                          have hx108_1 := nhx108_1_
                          clear nHB_ nhx102_0_ nhx102_1_ nhx104_0_ nhx104_1_ nhx106_0_ nhx106_1_ nhx107_0_ nhx107_1_ nhx108_0_ nhx108_1_
                          generalize wr.drewN nq = w16 at HB hx102_0 hx102_1 hx104_0 hx104_1 hx106_0 hx106_1 hx107_0 hx107_1 hx108_0 hx108_1 ⊢
                          try go_wp2
                          go_roundg k1
                          case measure => have := HK1.out; omega
                          case rel => exact ⟨(wrap64 (x3_1 + 1)), (by first | rfl | (simp; done) | (simp [*]; done)), H', ⟨by have := HK1.out; omega⟩, ⟨by repeat (first | (with_reducible first | exact HB.out | apply below_alloc | apply pw_below_drewN | apply below_drew1) | exact HB.out)⟩⟩
                      · rw [if_neg c13] at H
                        exact absurd H (by simp)
                    · rw [if_neg c12] at H
                      exact absurd H (by simp)
                  · rw [if_neg c10] at H
                    have c10b0 : decide (0 < x3_1) = false := decide_eq_false c10
                    clear c10
                    have H' := Aside0.mk H
                    clear H
                    try go_wp2
                    have n0_ := Aside0.mk (below_drew1 HB.out)
                    clear HB
                    have HB := n0_
                    clear n0_
                    have p102 : 0 ≤ (x3_1 : Int) := of_decide_eq_true (by first | (with_reducible assumption) | assumption)
                    have q102 : x3_1 < (l0.length : Int) := of_decide_eq_true (by first | (with_reducible assumption) | assumption)
                    obtain ⟨ad102, e102, hx102_0, hx102_1⟩ := at_T74 HR0.out x3_1 p102 q102
                    have hw102_1 := hx102_1
                    have hw102_0 := hx102_0
                    cases e102
                    replace hx102_0 := (HB.out.cell (World.block_lt_of_cell? w _ hx102_0)).trans hx102_0
                    replace hx102_1 := (HB.out.cell (World.block_lt_of_cell? w _ hx102_1)).trans hx102_1
                    replace p102 := eq_true p102
                    replace q102 := eq_true q102
                    have p104 : 0 ≤ (x3_1 : Int) := of_decide_eq_true (by first | (with_reducible assumption) | assumption)
                    have q104 : x3_1 < (l0.length : Int) := of_decide_eq_true (by first | (with_reducible assumption) | assumption)
                    obtain ⟨ad104, e104, hx104_0, hx104_1⟩ := at_T74 HR0.out x3_1 p104 q104
                    have hw104_1 := hx104_1
                    have hw104_0 := hx104_0
                    obtain rfl : ad102 = ad104 := (by injection e104)
                    replace hx104_0 := (HB.out.cell (World.block_lt_of_cell? w _ hx104_0)).trans hx104_0
                    replace hx104_1 := (HB.out.cell (World.block_lt_of_cell? w _ hx104_1)).trans hx104_1
                    replace p104 := eq_true p104
                    replace q104 := eq_true q104
                    have p106 : 0 ≤ (x3_1 : Int) := of_decide_eq_true (by first | (with_reducible assumption) | assumption)
                    have q106 : x3_1 < (l0.length : Int) := of_decide_eq_true (by first | (with_reducible assumption) | assumption)
                    obtain ⟨ad106, e106, hx106_0, hx106_1⟩ := at_T74 HR0.out x3_1 p106 q106
                    have hw106_1 := hx106_1
                    have hw106_0 := hx106_0
                    obtain rfl : ad102 = ad106 := (by injection e106)
                    replace hx106_0 := (HB.out.cell (World.block_lt_of_cell? w _ hx106_0)).trans hx106_0
                    replace hx106_1 := (HB.out.cell (World.block_lt_of_cell? w _ hx106_1)).trans hx106_1
                    replace p106 := eq_true p106
                    replace q106 := eq_true q106
                    have hq0_ : wr.cell? (ad102.add ((x3_1).toNat * 2)) = some (.int .i64 ((rd_T74 l0 x3_1).f0)) := ((HB.out.cell (World.block_lt_of_cell? w _ hw102_0)).trans hw102_0)
                    have hq1_ : wr.cell? ⟨(ad102.add ((x3_1).toNat * 2)).block, (ad102.add ((x3_1).toNat * 2)).off + 1, none⟩ = some (.int .i64 ((rd_T74 l0 x3_1).f1)) := ((HB.out.cell (World.block_lt_of_cell? w _ hw102_1)).trans hw102_1)
                    have hq2_ : wr.cell? (ad102.add ((x3_1).toNat * 2)) = some (.int .i64 ((rd_T74 l0 x3_1).f0)) := ((HB.out.cell (World.block_lt_of_cell? w _ hw104_0)).trans hw104_0)
                    have hq3_ : wr.cell? ⟨(ad102.add ((x3_1).toNat * 2)).block, (ad102.add ((x3_1).toNat * 2)).off + 1, none⟩ = some (.int .i64 ((rd_T74 l0 x3_1).f1)) := ((HB.out.cell (World.block_lt_of_cell? w _ hw104_1)).trans hw104_1)
                    have hq4_ : wr.cell? (ad102.add ((x3_1).toNat * 2)) = some (.int .i64 ((rd_T74 l0 x3_1).f0)) := ((HB.out.cell (World.block_lt_of_cell? w _ hw106_0)).trans hw106_0)
                    have hq5_ : wr.cell? ⟨(ad102.add ((x3_1).toNat * 2)).block, (ad102.add ((x3_1).toNat * 2)).off + 1, none⟩ = some (.int .i64 ((rd_T74 l0 x3_1).f1)) := ((HB.out.cell (World.block_lt_of_cell? w _ hw106_1)).trans hw106_1)
                    go_quiet ((first | (go_at_call 64; apply Calls.quiet_of; ((with_reducible refine (spec_l1In.calls ((rd_T74 l0 x3_1).f1) 20 300 true _ A4.out).mono ?_); exact fun _ _ h_ => ⟨h_.1, h_.2.out⟩)) | (go_at_call 64; apply Calls.quiet_of; ((with_reducible refine (spec_l1In.calls ((rd_T74 l0 x3_1).f0) 0 2000 true _ A6.out).mono ?_); exact fun _ _ h_ => ⟨h_.1, h_.2.out⟩))))
                    have nHB_ := Aside0.mk (pw_below_drewN (W := wr) ⟨HB.out.os, HB.out.tape, HB.out.output, HB.out.size, HB.out.block⟩ nq)
                    have nhx102_0_ : (wr.drewN nq).cell? _ = _ := hx102_0
                    have nhx102_1_ : (wr.drewN nq).cell? _ = _ := hx102_1
                    have nhx104_0_ : (wr.drewN nq).cell? _ = _ := hx104_0
                    have nhx104_1_ : (wr.drewN nq).cell? _ = _ := hx104_1
                    have nhx106_0_ : (wr.drewN nq).cell? _ = _ := hx106_0
                    have nhx106_1_ : (wr.drewN nq).cell? _ = _ := hx106_1
                    clear HB hx102_0 hx102_1 hx104_0 hx104_1 hx106_0 hx106_1 hq0_ hq1_ hq2_ hq3_ hq4_ hq5_
                    have HB := nHB_
                    have hx102_0 := nhx102_0_
                    have hx102_1 := nhx102_1_
                    have hx104_0 := nhx104_0_
                    have hx104_1 := nhx104_1_
                    have hx106_0 := nhx106_0_
                    have hx106_1 := nhx106_1_
                    clear nHB_ nhx102_0_ nhx102_1_ nhx104_0_ nhx104_1_ nhx106_0_ nhx106_1_
                    generalize wr.drewN nq = w17 at HB hx102_0 hx102_1 hx104_0 hx104_1 hx106_0 hx106_1 ⊢
                    try go_wp2
                    go_roundg k1
                    case measure => have := HK1.out; omega
                    case rel => exact ⟨(wrap64 (x3_1 + 1)), (by first | rfl | (simp; done) | (simp [*]; done)), H', ⟨by have := HK1.out; omega⟩, ⟨by repeat (first | (with_reducible first | exact HB.out | apply below_alloc | apply pw_below_drewN | apply below_drew1) | exact HB.out)⟩⟩
                · rw [if_neg c9] at H
                  have c9b0 : (((rd_T74 l0 x3_1).f0) == 0) = false := beq_eq_false_iff_ne.mpr c9
                  have c9b1 : (((rd_T74 l0 x3_1).f0) != 0) = true := bne_iff_ne.mpr c9
                  obtain rfl := Option.some.inj H
                  try go_wp2
                  have n0_ := Aside0.mk (below_drew1 HB.out)
                  clear HB
                  have HB := n0_
                  clear n0_
                  have p102 : 0 ≤ (x3_1 : Int) := of_decide_eq_true (by first | (with_reducible assumption) | assumption)
                  have q102 : x3_1 < (l0.length : Int) := of_decide_eq_true (by first | (with_reducible assumption) | assumption)
                  obtain ⟨ad102, e102, hx102_0, hx102_1⟩ := at_T74 HR0.out x3_1 p102 q102
                  have hw102_1 := hx102_1
                  have hw102_0 := hx102_0
                  cases e102
                  replace hx102_0 := (HB.out.cell (World.block_lt_of_cell? w _ hx102_0)).trans hx102_0
                  replace hx102_1 := (HB.out.cell (World.block_lt_of_cell? w _ hx102_1)).trans hx102_1
                  replace p102 := eq_true p102
                  replace q102 := eq_true q102
                  have p104 : 0 ≤ (x3_1 : Int) := of_decide_eq_true (by first | (with_reducible assumption) | assumption)
                  have q104 : x3_1 < (l0.length : Int) := of_decide_eq_true (by first | (with_reducible assumption) | assumption)
                  obtain ⟨ad104, e104, hx104_0, hx104_1⟩ := at_T74 HR0.out x3_1 p104 q104
                  have hw104_1 := hx104_1
                  have hw104_0 := hx104_0
                  obtain rfl : ad102 = ad104 := (by injection e104)
                  replace hx104_0 := (HB.out.cell (World.block_lt_of_cell? w _ hx104_0)).trans hx104_0
                  replace hx104_1 := (HB.out.cell (World.block_lt_of_cell? w _ hx104_1)).trans hx104_1
                  replace p104 := eq_true p104
                  replace q104 := eq_true q104
                  have p106 : 0 ≤ (x3_1 : Int) := of_decide_eq_true (by first | (with_reducible assumption) | assumption)
                  have q106 : x3_1 < (l0.length : Int) := of_decide_eq_true (by first | (with_reducible assumption) | assumption)
                  obtain ⟨ad106, e106, hx106_0, hx106_1⟩ := at_T74 HR0.out x3_1 p106 q106
                  have hw106_1 := hx106_1
                  have hw106_0 := hx106_0
                  obtain rfl : ad102 = ad106 := (by injection e106)
                  replace hx106_0 := (HB.out.cell (World.block_lt_of_cell? w _ hx106_0)).trans hx106_0
                  replace hx106_1 := (HB.out.cell (World.block_lt_of_cell? w _ hx106_1)).trans hx106_1
                  replace p106 := eq_true p106
                  replace q106 := eq_true q106
                  have hq0_ : wr.cell? (ad102.add ((x3_1).toNat * 2)) = some (.int .i64 ((rd_T74 l0 x3_1).f0)) := ((HB.out.cell (World.block_lt_of_cell? w _ hw102_0)).trans hw102_0)
                  have hq1_ : wr.cell? ⟨(ad102.add ((x3_1).toNat * 2)).block, (ad102.add ((x3_1).toNat * 2)).off + 1, none⟩ = some (.int .i64 ((rd_T74 l0 x3_1).f1)) := ((HB.out.cell (World.block_lt_of_cell? w _ hw102_1)).trans hw102_1)
                  have hq2_ : wr.cell? (ad102.add ((x3_1).toNat * 2)) = some (.int .i64 ((rd_T74 l0 x3_1).f0)) := ((HB.out.cell (World.block_lt_of_cell? w _ hw104_0)).trans hw104_0)
                  have hq3_ : wr.cell? ⟨(ad102.add ((x3_1).toNat * 2)).block, (ad102.add ((x3_1).toNat * 2)).off + 1, none⟩ = some (.int .i64 ((rd_T74 l0 x3_1).f1)) := ((HB.out.cell (World.block_lt_of_cell? w _ hw104_1)).trans hw104_1)
                  have hq4_ : wr.cell? (ad102.add ((x3_1).toNat * 2)) = some (.int .i64 ((rd_T74 l0 x3_1).f0)) := ((HB.out.cell (World.block_lt_of_cell? w _ hw106_0)).trans hw106_0)
                  have hq5_ : wr.cell? ⟨(ad102.add ((x3_1).toNat * 2)).block, (ad102.add ((x3_1).toNat * 2)).off + 1, none⟩ = some (.int .i64 ((rd_T74 l0 x3_1).f1)) := ((HB.out.cell (World.block_lt_of_cell? w _ hw106_1)).trans hw106_1)
                  go_quiet ((first | (go_at_call 64; apply Calls.quiet_of; ((with_reducible refine (spec_l1In.calls ((rd_T74 l0 x3_1).f1) 20 300 true _ A4.out).mono ?_); exact fun _ _ h_ => ⟨h_.1, h_.2.out⟩)) | (go_at_call 64; apply Calls.quiet_of; ((with_reducible refine (spec_l1In.calls ((rd_T74 l0 x3_1).f0) 0 2000 true _ A6.out).mono ?_); exact fun _ _ h_ => ⟨h_.1, h_.2.out⟩))))
                  have nHB_ := Aside0.mk (pw_below_drewN (W := wr) ⟨HB.out.os, HB.out.tape, HB.out.output, HB.out.size, HB.out.block⟩ nq)
                  have nhx102_0_ : (wr.drewN nq).cell? _ = _ := hx102_0
                  have nhx102_1_ : (wr.drewN nq).cell? _ = _ := hx102_1
                  have nhx104_0_ : (wr.drewN nq).cell? _ = _ := hx104_0
                  have nhx104_1_ : (wr.drewN nq).cell? _ = _ := hx104_1
                  have nhx106_0_ : (wr.drewN nq).cell? _ = _ := hx106_0
                  have nhx106_1_ : (wr.drewN nq).cell? _ = _ := hx106_1
                  clear HB hx102_0 hx102_1 hx104_0 hx104_1 hx106_0 hx106_1 hq0_ hq1_ hq2_ hq3_ hq4_ hq5_
                  have HB := nHB_
                  have hx102_0 := nhx102_0_
                  have hx102_1 := nhx102_1_
                  have hx104_0 := nhx104_0_
                  have hx104_1 := nhx104_1_
                  have hx106_0 := nhx106_0_
                  have hx106_1 := nhx106_1_
                  clear nHB_ nhx102_0_ nhx102_1_ nhx104_0_ nhx104_1_ nhx106_0_ nhx106_1_
                  generalize wr.drewN nq = w18 at HB hx102_0 hx102_1 hx104_0 hx104_1 hx106_0 hx106_1 ⊢
                  try go_wp2
                  go_ret
                  exact ⟨by first | rfl | (simp [errW_none, errW_some] <;> rfl) | (simp [*, errW_none, errW_some] <;> rfl), by repeat (first | (with_reducible first | exact HB.out | apply below_alloc | apply pw_below_drewN | apply below_drew1) | exact HB.out)⟩
              · rw [if_neg c8] at H
                have c8b0 : (x3_1 == 0) = false := beq_eq_false_iff_ne.mpr c8
                have c8b1 : (x3_1 != 0) = true := bne_iff_ne.mpr c8
                by_cases c19 : x3_1 > 0
                · rw [if_pos c19] at H
                  have c19b0 : decide (0 < x3_1) = true := decide_eq_true c19
                  clear c19
                  obtain ⟨ji20, hji20⟩ : ∃ j_ : Int, (wrap64 (x3_1 - 1)) = j_ := ⟨_, rfl⟩
                  replace H : (if 0 ≤ (ji20) then (if (ji20) < (l0.length : Int) then (if ((rd_T74 l0 (ji20)).f0) ≥ ((rd_T74 l0 x3_1).f0) then (some false) else (spec_IsTempo.l0 k1 l0 (wrap64 (x3_1 + 1)))) else (none)) else (none)) = some r := by first | (rw [hji20] at H; exact H) | (simp only [hji20] at H ⊢; exact H)
                  (try rw [hji20] at A4)
                  (try rw [hji20] at A6)
                  have hji20w : (IntKind.i64.wrap (x3_1 - 1)) = ji20 := (i64_w _).trans hji20
                  by_cases c21 : 0 ≤ (ji20)
                  · rw [if_pos c21] at H
                    have c21b0 : decide (0 ≤ (ji20)) = true := decide_eq_true c21
                    clear c21
                    by_cases c22 : (ji20) < (l0.length : Int)
                    · rw [if_pos c22] at H
                      have c22b0 : decide ((ji20) < (l0.length : Int)) = true := decide_eq_true c22
                      clear c22
                      by_cases c23 : ((rd_T74 l0 (ji20)).f0) ≥ ((rd_T74 l0 x3_1).f0)
                      · rw [if_pos c23] at H
                        have c23b0 : decide (((rd_T74 l0 x3_1).f0) ≤ ((rd_T74 l0 (ji20)).f0)) = true := decide_eq_true c23
                        clear c23
                        obtain rfl := Option.some.inj H
                        try go_wp2
                        have n0_ := Aside0.mk (below_drew1 HB.out)
                        clear HB
                        have HB := n0_
                        clear n0_
                        have p102 : 0 ≤ (x3_1 : Int) := of_decide_eq_true (by first | (with_reducible assumption) | assumption)
                        have q102 : x3_1 < (l0.length : Int) := of_decide_eq_true (by first | (with_reducible assumption) | assumption)
                        obtain ⟨ad102, e102, hx102_0, hx102_1⟩ := at_T74 HR0.out x3_1 p102 q102
                        have hw102_1 := hx102_1
                        have hw102_0 := hx102_0
                        cases e102
                        replace hx102_0 := (HB.out.cell (World.block_lt_of_cell? w _ hx102_0)).trans hx102_0
                        replace hx102_1 := (HB.out.cell (World.block_lt_of_cell? w _ hx102_1)).trans hx102_1
                        replace p102 := eq_true p102
                        replace q102 := eq_true q102
                        have p104 : 0 ≤ (x3_1 : Int) := of_decide_eq_true (by first | (with_reducible assumption) | assumption)
                        have q104 : x3_1 < (l0.length : Int) := of_decide_eq_true (by first | (with_reducible assumption) | assumption)
                        obtain ⟨ad104, e104, hx104_0, hx104_1⟩ := at_T74 HR0.out x3_1 p104 q104
                        have hw104_1 := hx104_1
                        have hw104_0 := hx104_0
                        obtain rfl : ad102 = ad104 := (by injection e104)
                        replace hx104_0 := (HB.out.cell (World.block_lt_of_cell? w _ hx104_0)).trans hx104_0
                        replace hx104_1 := (HB.out.cell (World.block_lt_of_cell? w _ hx104_1)).trans hx104_1
                        replace p104 := eq_true p104
                        replace q104 := eq_true q104
                        have p109 : 0 ≤ ((ji20) : Int) := of_decide_eq_true (by first | (with_reducible assumption) | assumption)
                        have q109 : (ji20) < (l0.length : Int) := of_decide_eq_true (by first | (with_reducible assumption) | assumption)
                        obtain ⟨ad109, e109, hx109_0, hx109_1⟩ := at_T74 HR0.out (ji20) p109 q109
                        have hw109_1 := hx109_1
                        have hw109_0 := hx109_0
                        obtain rfl : ad102 = ad109 := (by injection e109)
                        replace hx109_0 := (HB.out.cell (World.block_lt_of_cell? w _ hx109_0)).trans hx109_0
                        replace hx109_1 := (HB.out.cell (World.block_lt_of_cell? w _ hx109_1)).trans hx109_1
                        replace p109 := eq_true p109
                        replace q109 := eq_true q109
                        have p110 : 0 ≤ (x3_1 : Int) := of_decide_eq_true (by first | (with_reducible assumption) | assumption)
                        have q110 : x3_1 < (l0.length : Int) := of_decide_eq_true (by first | (with_reducible assumption) | assumption)
                        obtain ⟨ad110, e110, hx110_0, hx110_1⟩ := at_T74 HR0.out x3_1 p110 q110
                        have hw110_1 := hx110_1
                        have hw110_0 := hx110_0
                        obtain rfl : ad102 = ad110 := (by injection e110)
                        replace hx110_0 := (HB.out.cell (World.block_lt_of_cell? w _ hx110_0)).trans hx110_0
                        replace hx110_1 := (HB.out.cell (World.block_lt_of_cell? w _ hx110_1)).trans hx110_1
                        replace p110 := eq_true p110
                        replace q110 := eq_true q110
                        have hq0_ : wr.cell? (ad102.add ((x3_1).toNat * 2)) = some (.int .i64 ((rd_T74 l0 x3_1).f0)) := ((HB.out.cell (World.block_lt_of_cell? w _ hw102_0)).trans hw102_0)
                        have hq1_ : wr.cell? ⟨(ad102.add ((x3_1).toNat * 2)).block, (ad102.add ((x3_1).toNat * 2)).off + 1, none⟩ = some (.int .i64 ((rd_T74 l0 x3_1).f1)) := ((HB.out.cell (World.block_lt_of_cell? w _ hw102_1)).trans hw102_1)
                        have hq2_ : wr.cell? (ad102.add ((x3_1).toNat * 2)) = some (.int .i64 ((rd_T74 l0 x3_1).f0)) := ((HB.out.cell (World.block_lt_of_cell? w _ hw104_0)).trans hw104_0)
                        have hq3_ : wr.cell? ⟨(ad102.add ((x3_1).toNat * 2)).block, (ad102.add ((x3_1).toNat * 2)).off + 1, none⟩ = some (.int .i64 ((rd_T74 l0 x3_1).f1)) := ((HB.out.cell (World.block_lt_of_cell? w _ hw104_1)).trans hw104_1)
                        have hq4_ : wr.cell? (ad102.add (((ji20)).toNat * 2)) = some (.int .i64 ((rd_T74 l0 (ji20)).f0)) := ((HB.out.cell (World.block_lt_of_cell? w _ hw109_0)).trans hw109_0)
                        have hq5_ : wr.cell? ⟨(ad102.add (((ji20)).toNat * 2)).block, (ad102.add (((ji20)).toNat * 2)).off + 1, none⟩ = some (.int .i64 ((rd_T74 l0 (ji20)).f1)) := ((HB.out.cell (World.block_lt_of_cell? w _ hw109_1)).trans hw109_1)
                        have hq6_ : wr.cell? (ad102.add ((x3_1).toNat * 2)) = some (.int .i64 ((rd_T74 l0 x3_1).f0)) := ((HB.out.cell (World.block_lt_of_cell? w _ hw110_0)).trans hw110_0)
                        have hq7_ : wr.cell? ⟨(ad102.add ((x3_1).toNat * 2)).block, (ad102.add ((x3_1).toNat * 2)).off + 1, none⟩ = some (.int .i64 ((rd_T74 l0 x3_1).f1)) := ((HB.out.cell (World.block_lt_of_cell? w _ hw110_1)).trans hw110_1)
                        go_quiet ((first | (go_at_call 64; apply Calls.quiet_of; ((with_reducible refine (spec_l1In.calls ((rd_T74 l0 x3_1).f1) 20 300 true _ A4.out).mono ?_); exact fun _ _ h_ => ⟨h_.1, h_.2.out⟩)) | (go_at_call 64; apply Calls.quiet_of; ((with_reducible refine (spec_l1In.calls ((rd_T74 l0 x3_1).f0) 0 2000 true _ A6.out).mono ?_); exact fun _ _ h_ => ⟨h_.1, h_.2.out⟩))))
                        have nHB_ := Aside0.mk (pw_below_drewN (W := wr) ⟨HB.out.os, HB.out.tape, HB.out.output, HB.out.size, HB.out.block⟩ nq)
                        have nhx102_0_ : (wr.drewN nq).cell? _ = _ := hx102_0
                        have nhx102_1_ : (wr.drewN nq).cell? _ = _ := hx102_1
                        have nhx104_0_ : (wr.drewN nq).cell? _ = _ := hx104_0
                        have nhx104_1_ : (wr.drewN nq).cell? _ = _ := hx104_1
                        have nhx109_0_ : (wr.drewN nq).cell? _ = _ := hx109_0
                        have nhx109_1_ : (wr.drewN nq).cell? _ = _ := hx109_1
                        have nhx110_0_ : (wr.drewN nq).cell? _ = _ := hx110_0
                        have nhx110_1_ : (wr.drewN nq).cell? _ = _ := hx110_1
                        clear HB hx102_0 hx102_1 hx104_0 hx104_1 hx109_0 hx109_1 hx110_0 hx110_1 hq0_ hq1_ hq2_ hq3_ hq4_ hq5_ hq6_ hq7_
                        have HB := nHB_
                        have hx102_0 := nhx102_0_
                        have hx102_1 := nhx102_1_
                        have hx104_0 := nhx104_0_
                        have hx104_1 := nhx104_1_
                        have hx109_0 := nhx109_0_
                        have hx109_1 := nhx109_1_
                        have hx110_0 := nhx110_0_
                        have hx110_1 := nhx110_1_
                        clear nHB_ nhx102_0_ nhx102_1_ nhx104_0_ nhx104_1_ nhx109_0_ nhx109_1_ nhx110_0_ nhx110_1_
                        generalize wr.drewN nq = w24 at HB hx102_0 hx102_1 hx104_0 hx104_1 hx109_0 hx109_1 hx110_0 hx110_1 ⊢
                        try go_wp2
                        go_ret
                        exact ⟨by first | rfl | (simp [errW_none, errW_some] <;> rfl) | (simp only [← hji20]; first | rfl | (simp [errW_none, errW_some] <;> rfl)) | (simp [*, errW_none, errW_some] <;> rfl), by repeat (first | (with_reducible first | exact HB.out | apply below_alloc | apply pw_below_drewN | apply below_drew1) | exact HB.out)⟩
                      · rw [if_neg c23] at H
                        have c23b0 : decide (((rd_T74 l0 x3_1).f0) ≤ ((rd_T74 l0 (ji20)).f0)) = false := decide_eq_false c23
                        clear c23
                        have H' := Aside0.mk H
                        clear H
                        try go_wp2
                        have n0_ := Aside0.mk (below_drew1 HB.out)
                        clear HB
                        have HB := n0_
                        clear n0_
                        have p102 : 0 ≤ (x3_1 : Int) := of_decide_eq_true (by first | (with_reducible assumption) | assumption)
                        have q102 : x3_1 < (l0.length : Int) := of_decide_eq_true (by first | (with_reducible assumption) | assumption)
                        obtain ⟨ad102, e102, hx102_0, hx102_1⟩ := at_T74 HR0.out x3_1 p102 q102
                        have hw102_1 := hx102_1
                        have hw102_0 := hx102_0
                        cases e102
                        replace hx102_0 := (HB.out.cell (World.block_lt_of_cell? w _ hx102_0)).trans hx102_0
                        replace hx102_1 := (HB.out.cell (World.block_lt_of_cell? w _ hx102_1)).trans hx102_1
                        replace p102 := eq_true p102
                        replace q102 := eq_true q102
                        have p104 : 0 ≤ (x3_1 : Int) := of_decide_eq_true (by first | (with_reducible assumption) | assumption)
                        have q104 : x3_1 < (l0.length : Int) := of_decide_eq_true (by first | (with_reducible assumption) | assumption)
                        obtain ⟨ad104, e104, hx104_0, hx104_1⟩ := at_T74 HR0.out x3_1 p104 q104
                        have hw104_1 := hx104_1
                        have hw104_0 := hx104_0
                        obtain rfl : ad102 = ad104 := (by injection e104)
                        replace hx104_0 := (HB.out.cell (World.block_lt_of_cell? w _ hx104_0)).trans hx104_0
                        replace hx104_1 := (HB.out.cell (World.block_lt_of_cell? w _ hx104_1)).trans hx104_1
                        replace p104 := eq_true p104
                        replace q104 := eq_true q104
                        have p109 : 0 ≤ ((ji20) : Int) := of_decide_eq_true (by first | (with_reducible assumption) | assumption)
                        have q109 : (ji20) < (l0.length : Int) := of_decide_eq_true (by first | (with_reducible assumption) | assumption)
                        obtain ⟨ad109, e109, hx109_0, hx109_1⟩ := at_T74 HR0.out (ji20) p109 q109
                        have hw109_1 := hx109_1
                        have hw109_0 := hx109_0
                        obtain rfl : ad102 = ad109 := (by injection e109)
                        replace hx109_0 := (HB.out.cell (World.block_lt_of_cell? w _ hx109_0)).trans hx109_0
                        replace hx109_1 := (HB.out.cell (World.block_lt_of_cell? w _ hx109_1)).trans hx109_1
                        replace p109 := eq_true p109
                        replace q109 := eq_true q109
                        have p110 : 0 ≤ (x3_1 : Int) := of_decide_eq_true (by first | (with_reducible assumption) | assumption)
                        have q110 : x3_1 < (l0.length : Int) := of_decide_eq_true (by first | (with_reducible assumption) | assumption)
                        obtain ⟨ad110, e110, hx110_0, hx110_1⟩ := at_T74 HR0.out x3_1 p110 q110
                        have hw110_1 := hx110_1
                        have hw110_0 := hx110_0
                        obtain rfl : ad102 = ad110 := (by injection e110)
                        replace hx110_0 := (HB.out.cell (World.block_lt_of_cell? w _ hx110_0)).trans hx110_0
                        replace hx110_1 := (HB.out.cell (World.block_lt_of_cell? w _ hx110_1)).trans hx110_1
                        replace p110 := eq_true p110
                        replace q110 := eq_true q110
                        have hq0_ : wr.cell? (ad102.add ((x3_1).toNat * 2)) = some (.int .i64 ((rd_T74 l0 x3_1).f0)) := ((HB.out.cell (World.block_lt_of_cell? w _ hw102_0)).trans hw102_0)
                        have hq1_ : wr.cell? ⟨(ad102.add ((x3_1).toNat * 2)).block, (ad102.add ((x3_1).toNat * 2)).off + 1, none⟩ = some (.int .i64 ((rd_T74 l0 x3_1).f1)) := ((HB.out.cell (World.block_lt_of_cell? w _ hw102_1)).trans hw102_1)
                        have hq2_ : wr.cell? (ad102.add ((x3_1).toNat * 2)) = some (.int .i64 ((rd_T74 l0 x3_1).f0)) := ((HB.out.cell (World.block_lt_of_cell? w _ hw104_0)).trans hw104_0)
                        have hq3_ : wr.cell? ⟨(ad102.add ((x3_1).toNat * 2)).block, (ad102.add ((x3_1).toNat * 2)).off + 1, none⟩ = some (.int .i64 ((rd_T74 l0 x3_1).f1)) := ((HB.out.cell (World.block_lt_of_cell? w _ hw104_1)).trans hw104_1)
                        have hq4_ : wr.cell? (ad102.add (((ji20)).toNat * 2)) = some (.int .i64 ((rd_T74 l0 (ji20)).f0)) := ((HB.out.cell (World.block_lt_of_cell? w _ hw109_0)).trans hw109_0)
                        have hq5_ : wr.cell? ⟨(ad102.add (((ji20)).toNat * 2)).block, (ad102.add (((ji20)).toNat * 2)).off + 1, none⟩ = some (.int .i64 ((rd_T74 l0 (ji20)).f1)) := ((HB.out.cell (World.block_lt_of_cell? w _ hw109_1)).trans hw109_1)
                        have hq6_ : wr.cell? (ad102.add ((x3_1).toNat * 2)) = some (.int .i64 ((rd_T74 l0 x3_1).f0)) := ((HB.out.cell (World.block_lt_of_cell? w _ hw110_0)).trans hw110_0)
                        have hq7_ : wr.cell? ⟨(ad102.add ((x3_1).toNat * 2)).block, (ad102.add ((x3_1).toNat * 2)).off + 1, none⟩ = some (.int .i64 ((rd_T74 l0 x3_1).f1)) := ((HB.out.cell (World.block_lt_of_cell? w _ hw110_1)).trans hw110_1)
                        go_quiet ((first | (go_at_call 64; apply Calls.quiet_of; ((with_reducible refine (spec_l1In.calls ((rd_T74 l0 x3_1).f1) 20 300 true _ A4.out).mono ?_); exact fun _ _ h_ => ⟨h_.1, h_.2.out⟩)) | (go_at_call 64; apply Calls.quiet_of; ((with_reducible refine (spec_l1In.calls ((rd_T74 l0 x3_1).f0) 0 2000 true _ A6.out).mono ?_); exact fun _ _ h_ => ⟨h_.1, h_.2.out⟩))))
                        have nHB_ := Aside0.mk (pw_below_drewN (W := wr) ⟨HB.out.os, HB.out.tape, HB.out.output, HB.out.size, HB.out.block⟩ nq)
                        have nhx102_0_ : (wr.drewN nq).cell? _ = _ := hx102_0
                        have nhx102_1_ : (wr.drewN nq).cell? _ = _ := hx102_1
                        have nhx104_0_ : (wr.drewN nq).cell? _ = _ := hx104_0
                        have nhx104_1_ : (wr.drewN nq).cell? _ = _ := hx104_1
                        have nhx109_0_ : (wr.drewN nq).cell? _ = _ := hx109_0
                        have nhx109_1_ : (wr.drewN nq).cell? _ = _ := hx109_1
                        have nhx110_0_ : (wr.drewN nq).cell? _ = _ := hx110_0
                        have nhx110_1_ : (wr.drewN nq).cell? _ = _ := hx110_1
                        clear HB hx102_0 hx102_1 hx104_0 hx104_1 hx109_0 hx109_1 hx110_0 hx110_1 hq0_ hq1_ hq2_ hq3_ hq4_ hq5_ hq6_ hq7_
                        have HB := nHB_
                        have hx102_0 := nhx102_0_
                        have hx102_1 := nhx102_1_
                        have hx104_0 := nhx104_0_
                        have hx104_1 := nhx104_1_
                        have hx109_0 := nhx109_0_
                        have hx109_1 := nhx109_1_
                        have hx110_0 := nhx110_0_
                        have hx110_1 := nhx110_1_
                        clear nHB_ nhx102_0_ nhx102_1_ nhx104_0_ nhx104_1_ nhx109_0_ nhx109_1_ nhx110_0_ nhx110_1_
                        generalize wr.drewN nq = w25 at HB hx102_0 hx102_1 hx104_0 hx104_1 hx109_0 hx109_1 hx110_0 hx110_1 ⊢
                        try go_wp2
                        go_roundg k1
                        case measure => have := HK1.out; omega
                        case rel => exact ⟨(wrap64 (x3_1 + 1)), (by first | rfl | (simp; done) | (simp [*]; done)), H', ⟨by have := HK1.out; omega⟩, ⟨by repeat (first | (with_reducible first | exact HB.out | apply below_alloc | apply pw_below_drewN | apply below_drew1) | exact HB.out)⟩⟩
                    · rw [if_neg c22] at H
                      exact absurd H (by simp)
                  · rw [if_neg c21] at H
                    exact absurd H (by simp)
                · rw [if_neg c19] at H
                  have c19b0 : decide (0 < x3_1) = false := decide_eq_false c19
                  clear c19
                  have H' := Aside0.mk H
                  clear H
                  try go_wp2
                  have n0_ := Aside0.mk (below_drew1 HB.out)
                  clear HB
                  have HB := n0_
                  clear n0_
                  have p102 : 0 ≤ (x3_1 : Int) := of_decide_eq_true (by first | (with_reducible assumption) | assumption)
                  have q102 : x3_1 < (l0.length : Int) := of_decide_eq_true (by first | (with_reducible assumption) | assumption)
                  obtain ⟨ad102, e102, hx102_0, hx102_1⟩ := at_T74 HR0.out x3_1 p102 q102
                  have hw102_1 := hx102_1
                  have hw102_0 := hx102_0
                  cases e102
                  replace hx102_0 := (HB.out.cell (World.block_lt_of_cell? w _ hx102_0)).trans hx102_0
                  replace hx102_1 := (HB.out.cell (World.block_lt_of_cell? w _ hx102_1)).trans hx102_1
                  replace p102 := eq_true p102
                  replace q102 := eq_true q102
                  have p104 : 0 ≤ (x3_1 : Int) := of_decide_eq_true (by first | (with_reducible assumption) | assumption)
                  have q104 : x3_1 < (l0.length : Int) := of_decide_eq_true (by first | (with_reducible assumption) | assumption)
                  obtain ⟨ad104, e104, hx104_0, hx104_1⟩ := at_T74 HR0.out x3_1 p104 q104
                  have hw104_1 := hx104_1
                  have hw104_0 := hx104_0
                  obtain rfl : ad102 = ad104 := (by injection e104)
                  replace hx104_0 := (HB.out.cell (World.block_lt_of_cell? w _ hx104_0)).trans hx104_0
                  replace hx104_1 := (HB.out.cell (World.block_lt_of_cell? w _ hx104_1)).trans hx104_1
                  replace p104 := eq_true p104
                  replace q104 := eq_true q104
                  have hq0_ : wr.cell? (ad102.add ((x3_1).toNat * 2)) = some (.int .i64 ((rd_T74 l0 x3_1).f0)) := ((HB.out.cell (World.block_lt_of_cell? w _ hw102_0)).trans hw102_0)
                  have hq1_ : wr.cell? ⟨(ad102.add ((x3_1).toNat * 2)).block, (ad102.add ((x3_1).toNat * 2)).off + 1, none⟩ = some (.int .i64 ((rd_T74 l0 x3_1).f1)) := ((HB.out.cell (World.block_lt_of_cell? w _ hw102_1)).trans hw102_1)
                  have hq2_ : wr.cell? (ad102.add ((x3_1).toNat * 2)) = some (.int .i64 ((rd_T74 l0 x3_1).f0)) := ((HB.out.cell (World.block_lt_of_cell? w _ hw104_0)).trans hw104_0)
                  have hq3_ : wr.cell? ⟨(ad102.add ((x3_1).toNat * 2)).block, (ad102.add ((x3_1).toNat * 2)).off + 1, none⟩ = some (.int .i64 ((rd_T74 l0 x3_1).f1)) := ((HB.out.cell (World.block_lt_of_cell? w _ hw104_1)).trans hw104_1)
                  go_quiet ((first | (go_at_call 64; apply Calls.quiet_of; ((with_reducible refine (spec_l1In.calls ((rd_T74 l0 x3_1).f1) 20 300 true _ A4.out).mono ?_); exact fun _ _ h_ => ⟨h_.1, h_.2.out⟩)) | (go_at_call 64; apply Calls.quiet_of; ((with_reducible refine (spec_l1In.calls ((rd_T74 l0 x3_1).f0) 0 2000 true _ A6.out).mono ?_); exact fun _ _ h_ => ⟨h_.1, h_.2.out⟩))))
                  have nHB_ := Aside0.mk (pw_below_drewN (W := wr) ⟨HB.out.os, HB.out.tape, HB.out.output, HB.out.size, HB.out.block⟩ nq)
                  have nhx102_0_ : (wr.drewN nq).cell? _ = _ := hx102_0
                  have nhx102_1_ : (wr.drewN nq).cell? _ = _ := hx102_1
                  have nhx104_0_ : (wr.drewN nq).cell? _ = _ := hx104_0
                  have nhx104_1_ : (wr.drewN nq).cell? _ = _ := hx104_1
                  clear HB hx102_0 hx102_1 hx104_0 hx104_1 hq0_ hq1_ hq2_ hq3_
                  have HB := nHB_
                  have hx102_0 := nhx102_0_
                  have hx102_1 := nhx102_1_
                  have hx104_0 := nhx104_0_
                  have hx104_1 := nhx104_1_
                  clear nHB_ nhx102_0_ nhx102_1_ nhx104_0_ nhx104_1_
                  generalize wr.drewN nq = w26 at HB hx102_0 hx102_1 hx104_0 hx104_1 ⊢
                  try go_wp2
                  go_roundg k1
                  case measure => have := HK1.out; omega
                  case rel => exact ⟨(wrap64 (x3_1 + 1)), (by first | rfl | (simp; done) | (simp [*]; done)), H', ⟨by have := HK1.out; omega⟩, ⟨by repeat (first | (with_reducible first | exact HB.out | apply below_alloc | apply pw_below_drewN | apply below_drew1) | exact HB.out)⟩⟩
            · replace c7 := Bool.eq_false_iff.mpr c7
              subst c7
              have H1 : (some false) = some r := by rw [if_neg (show ¬ (false = true) by decide)] at H; exact H
              clear H
              have H := H1
              clear H1
              obtain rfl := Option.some.inj H
              try go_wp2
              have n0_ := Aside0.mk (below_drew1 HB.out)
              clear HB
              have HB := n0_
              clear n0_
              have p102 : 0 ≤ (x3_1 : Int) := of_decide_eq_true (by first | (with_reducible assumption) | assumption)
              have q102 : x3_1 < (l0.length : Int) := of_decide_eq_true (by first | (with_reducible assumption) | assumption)
              obtain ⟨ad102, e102, hx102_0, hx102_1⟩ := at_T74 HR0.out x3_1 p102 q102
              have hw102_1 := hx102_1
              have hw102_0 := hx102_0
              cases e102
              replace hx102_0 := (HB.out.cell (World.block_lt_of_cell? w _ hx102_0)).trans hx102_0
              replace hx102_1 := (HB.out.cell (World.block_lt_of_cell? w _ hx102_1)).trans hx102_1
              replace p102 := eq_true p102
              replace q102 := eq_true q102
              have p104 : 0 ≤ (x3_1 : Int) := of_decide_eq_true (by first | (with_reducible assumption) | assumption)
              have q104 : x3_1 < (l0.length : Int) := of_decide_eq_true (by first | (with_reducible assumption) | assumption)
              obtain ⟨ad104, e104, hx104_0, hx104_1⟩ := at_T74 HR0.out x3_1 p104 q104
              have hw104_1 := hx104_1
              have hw104_0 := hx104_0
              obtain rfl : ad102 = ad104 := (by injection e104)
              replace hx104_0 := (HB.out.cell (World.block_lt_of_cell? w _ hx104_0)).trans hx104_0
              replace hx104_1 := (HB.out.cell (World.block_lt_of_cell? w _ hx104_1)).trans hx104_1
              replace p104 := eq_true p104
              replace q104 := eq_true q104
              have hq0_ : wr.cell? (ad102.add ((x3_1).toNat * 2)) = some (.int .i64 ((rd_T74 l0 x3_1).f0)) := ((HB.out.cell (World.block_lt_of_cell? w _ hw102_0)).trans hw102_0)
              have hq1_ : wr.cell? ⟨(ad102.add ((x3_1).toNat * 2)).block, (ad102.add ((x3_1).toNat * 2)).off + 1, none⟩ = some (.int .i64 ((rd_T74 l0 x3_1).f1)) := ((HB.out.cell (World.block_lt_of_cell? w _ hw102_1)).trans hw102_1)
              have hq2_ : wr.cell? (ad102.add ((x3_1).toNat * 2)) = some (.int .i64 ((rd_T74 l0 x3_1).f0)) := ((HB.out.cell (World.block_lt_of_cell? w _ hw104_0)).trans hw104_0)
              have hq3_ : wr.cell? ⟨(ad102.add ((x3_1).toNat * 2)).block, (ad102.add ((x3_1).toNat * 2)).off + 1, none⟩ = some (.int .i64 ((rd_T74 l0 x3_1).f1)) := ((HB.out.cell (World.block_lt_of_cell? w _ hw104_1)).trans hw104_1)
              go_quiet ((first | (go_at_call 64; apply Calls.quiet_of; ((with_reducible refine (spec_l1In.calls ((rd_T74 l0 x3_1).f1) 20 300 true _ A4.out).mono ?_); exact fun _ _ h_ => ⟨h_.1, h_.2.out⟩)) | (go_at_call 64; apply Calls.quiet_of; ((with_reducible refine (spec_l1In.calls ((rd_T74 l0 x3_1).f0) 0 2000 false _ A6.out).mono ?_); exact fun _ _ h_ => ⟨h_.1, h_.2.out⟩))))
              have nHB_ := Aside0.mk (pw_below_drewN (W := wr) ⟨HB.out.os, HB.out.tape, HB.out.output, HB.out.size, HB.out.block⟩ nq)
              have nhx102_0_ : (wr.drewN nq).cell? _ = _ := hx102_0
              have nhx102_1_ : (wr.drewN nq).cell? _ = _ := hx102_1
              have nhx104_0_ : (wr.drewN nq).cell? _ = _ := hx104_0
              have nhx104_1_ : (wr.drewN nq).cell? _ = _ := hx104_1
              clear HB hx102_0 hx102_1 hx104_0 hx104_1 hq0_ hq1_ hq2_ hq3_
              have HB := nHB_
              have hx102_0 := nhx102_0_
              have hx102_1 := nhx102_1_
              have hx104_0 := nhx104_0_
              have hx104_1 := nhx104_1_
              clear nHB_ nhx102_0_ nhx102_1_ nhx104_0_ nhx104_1_
              generalize wr.drewN nq = w27 at HB hx102_0 hx102_1 hx104_0 hx104_1 ⊢
              try go_wp2
              go_ret
              exact ⟨by first | rfl | (simp [errW_none, errW_some] <;> rfl) | (simp [*, errW_none, errW_some] <;> rfl), by repeat (first | (with_reducible first | exact HB.out | apply below_alloc | apply pw_below_drewN | apply below_drew1) | exact HB.out)⟩
          · replace c5 := Bool.eq_false_iff.mpr c5
            subst c5
            have H1 : (some false) = some r := by rw [if_neg (show ¬ (false = true) by decide)] at H; exact H
            clear H
            have H := H1
            clear H1
            obtain rfl := Option.some.inj H
            try go_wp2
            have n0_ := Aside0.mk (below_drew1 HB.out)
            clear HB
            have HB := n0_
            clear n0_
            have p102 : 0 ≤ (x3_1 : Int) := of_decide_eq_true (by first | (with_reducible assumption) | assumption)
            have q102 : x3_1 < (l0.length : Int) := of_decide_eq_true (by first | (with_reducible assumption) | assumption)
            obtain ⟨ad102, e102, hx102_0, hx102_1⟩ := at_T74 HR0.out x3_1 p102 q102
            have hw102_1 := hx102_1
            have hw102_0 := hx102_0
            cases e102
            replace hx102_0 := (HB.out.cell (World.block_lt_of_cell? w _ hx102_0)).trans hx102_0
            replace hx102_1 := (HB.out.cell (World.block_lt_of_cell? w _ hx102_1)).trans hx102_1
            replace p102 := eq_true p102
            replace q102 := eq_true q102
            have hq0_ : wr.cell? (ad102.add ((x3_1).toNat * 2)) = some (.int .i64 ((rd_T74 l0 x3_1).f0)) := ((HB.out.cell (World.block_lt_of_cell? w _ hw102_0)).trans hw102_0)
            have hq1_ : wr.cell? ⟨(ad102.add ((x3_1).toNat * 2)).block, (ad102.add ((x3_1).toNat * 2)).off + 1, none⟩ = some (.int .i64 ((rd_T74 l0 x3_1).f1)) := ((HB.out.cell (World.block_lt_of_cell? w _ hw102_1)).trans hw102_1)
            go_quiet ((first | (go_at_call 64; apply Calls.quiet_of; ((with_reducible refine (spec_l1In.calls ((rd_T74 l0 x3_1).f1) 20 300 false _ A4.out).mono ?_); exact fun _ _ h_ => ⟨h_.1, h_.2.out⟩))))
            have nHB_ := Aside0.mk (pw_below_drewN (W := wr) ⟨HB.out.os, HB.out.tape, HB.out.output, HB.out.size, HB.out.block⟩ nq)
            have nhx102_0_ : (wr.drewN nq).cell? _ = _ := hx102_0
            have nhx102_1_ : (wr.drewN nq).cell? _ = _ := hx102_1
            clear HB hx102_0 hx102_1 hq0_ hq1_
            have HB := nHB_
            have hx102_0 := nhx102_0_
            have hx102_1 := nhx102_1_
            clear nHB_ nhx102_0_ nhx102_1_
            generalize wr.drewN nq = w28 at HB hx102_0 hx102_1 ⊢
            try go_wp2
            go_ret
            exact ⟨by first | rfl | (simp [errW_none, errW_some] <;> rfl) | (simp [*, errW_none, errW_some] <;> rfl), by repeat (first | (with_reducible first | exact HB.out | apply below_alloc | apply pw_below_drewN | apply below_drew1) | exact HB.out)⟩
        · rw [if_neg c3] at H
          exact absurd H (by simp)
      · rw [if_neg c2] at H
        have c2b0 : decide (x3_1 < (l0.length : Int)) = false := decide_eq_false c2
        clear c2
        replace H := Option.bind_eq_some_iff.mp H
        obtain ⟨t101, A290, H⟩ := H
        replace H : (some t101) = some r := H
        have A29 := Aside0.mk A290
        clear A290
        obtain rfl := Option.some.inj H
        go_wp2_with (first | ((with_reducible refine gate_callee (f := 64) rfl ?_); refine goesL_ (some 58) rfl rfl Try.func64 (by kernel_rfl) rfl #[.int .i64 (l0.length : Int), .int .i64 1, .int .i64 8] rfl (by (try simp only [List.map_toArray, List.map_cons, List.map_nil]); first | done | rfl | (simp only [List.length_drop, List.length_take]; rfl)) ?_; (with_reducible refine (spec_l1In.calls (l0.length : Int) 1 8 t101 _ A29.out).mono ?_); rintro e w' ⟨rfl, ⟨nd, rfl⟩⟩; refine ⟨_, rfl, ?_⟩))
        go_ret
        exact ⟨by first | rfl | (simp [errW_none, errW_some] <;> rfl) | (simp [*, errW_none, errW_some] <;> rfl), by repeat (first | (with_reducible first | exact HB.out | apply below_alloc | apply pw_below_drewN | apply below_drew1) | exact HB.out)⟩

end Go.Proofs.Ytinbdgngpkbgcaa.F
