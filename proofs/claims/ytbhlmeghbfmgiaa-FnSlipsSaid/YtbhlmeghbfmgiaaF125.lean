-- Written for this claim by the kit's print.py out of the translation, called by wip/tools/fprint.py. Lean checks it.
import Derived.Test.YtbhlmeghbfmgiaaF0
import Derived.Test.YtbhlmeghbfmgiaaF23
namespace Go.Proofs.Ytbhlmeghbfmgiaa.F
open Go.RowKit Go.Proofs.YtbhlmeghbfmgiaaW.PrintWords Go.Proofs.YtbhlmeghbfmgiaaW.PrintLast Go.Proofs.YtbhlmeghbfmgiaaW.PrintMore
attribute [local go_sem] max2_int min2_int max_two min_two max_three min_three max_four min_four   -- for this text's walks alone
set_option linter.unusedVariables false
set_option linter.unusedSimpArgs false

/-! ### impl_AreSlips: function 106 -/
mutual
def impl_AreSlips.j0 : Nat → List (S63) → Int → Bool → Option (Bool)
  | 0, _, _, _ => none
  | k + 1, x0, x1, x15 => if x15 = true then (some false) else (impl_AreSlips.l0 k x0 x1 x0 (x0.length : Int) 0)
def impl_AreSlips.l0 : Nat → List (S63) → Int → List (S63) → Int → Int → Option (Bool)
  | 0, _, _, _, _, _ => none
  | k + 1, x0, x1, x16, x17, x18 => if x18 < x17 then (if 0 ≤ x18 then (if x18 < (x16.length : Int) then (if ((rd_T63 x16 x18).f0) = 3 then (impl_AreSlips.j2 k x0 x1 x18 x1 x16 x17 x18 ((rd_T63 x16 x18).f0) ((rd_T63 x16 x18).f1) ((rd_T63 x16 x18).f2)) else (impl_AreSlips.j2 k x0 x1 x18 (wrap64 (x1 - 1)) x16 x17 x18 ((rd_T63 x16 x18).f0) ((rd_T63 x16 x18).f1) ((rd_T63 x16 x18).f2))) else (none)) else (none)) else (some true)
def impl_AreSlips.j2 : Nat → List (S63) → Int → Int → Int → List (S63) → Int → Int → Int → Int → Int → Option (Bool)
  | 0, _, _, _, _, _, _, _, _, _, _ => none
  | k + 1, x0, x1, x5, x7, x16, x17, x18, x1093000, x1093001, x1093002 => (impl_InRange.f x1093000 1 3).bind fun t1093 => (if t1093 = true then ((impl_InRange.f x1093001 0 x7).bind fun t1094 => (if t1094 = true then ((impl_InRange.f x1093002 0 127).bind fun t1095 => (if t1095 = true then (if x1093000 = 2 then (if x1093002 = 0 then (if x5 > 0 then (if 0 ≤ (wrap64 (x5 - 1)) then (if (wrap64 (x5 - 1)) < (x0.length : Int) then (if ((rd_T63 x0 (wrap64 (x5 - 1))).f1) ≤ x1093001 then (some false) else (impl_AreSlips.l0 k x0 x1 x16 x17 (wrap64 (x18 + 1)))) else (none)) else (none)) else (impl_AreSlips.l0 k x0 x1 x16 x17 (wrap64 (x18 + 1)))) else (some false)) else (if x5 > 0 then (if 0 ≤ (wrap64 (x5 - 1)) then (if (wrap64 (x5 - 1)) < (x0.length : Int) then (if ((rd_T63 x0 (wrap64 (x5 - 1))).f1) ≤ x1093001 then (some false) else (impl_AreSlips.l0 k x0 x1 x16 x17 (wrap64 (x18 + 1)))) else (none)) else (none)) else (impl_AreSlips.l0 k x0 x1 x16 x17 (wrap64 (x18 + 1))))) else (some false))) else (some false))) else (some false))
end
def impl_AreSlips.f (k : Nat) (l0 : List (S63)) (a1 : Int) : Option (Bool) := if (l0.length : Int) > 8 then (impl_AreSlips.j0 k l0 a1 true) else ((impl_InRange.f a1 0 1000).bind fun t1090 => (impl_AreSlips.j0 k l0 a1 (!t1090)))
theorem impl_AreSlips.mono_l : ∀ k, (∀ y0 y1 y2, LeO (impl_AreSlips.j0 k y0 y1 y2) (impl_AreSlips.j0 (k + 1) y0 y1 y2)) ∧ (∀ y0 y1 y2 y3 y4, LeO (impl_AreSlips.l0 k y0 y1 y2 y3 y4) (impl_AreSlips.l0 (k + 1) y0 y1 y2 y3 y4)) ∧ (∀ y0 y1 y2 y3 y4 y5 y6 y7 y8 y9, LeO (impl_AreSlips.j2 k y0 y1 y2 y3 y4 y5 y6 y7 y8 y9) (impl_AreSlips.j2 (k + 1) y0 y1 y2 y3 y4 y5 y6 y7 y8 y9))
  | 0 => ⟨fun _ _ _ r h => by simp [impl_AreSlips.j0] at h, fun _ _ _ _ _ r h => by simp [impl_AreSlips.l0] at h, fun _ _ _ _ _ _ _ _ _ _ r h => by simp [impl_AreSlips.j2] at h⟩
  | k + 1 => by
    obtain ⟨ih0, ih1, ih2⟩ := impl_AreSlips.mono_l k
    refine ⟨?_, ?_, ?_⟩
    · intro y0 y1 y2
      unfold impl_AreSlips.j0
      repeat' first
      | (with_reducible exact ih0 _ _ _)
      | (with_reducible exact ih1 _ _ _ _ _)
      | (with_reducible exact ih2 _ _ _ _ _ _ _ _ _ _)
      | (with_reducible exact LeO.refl _)
      | (with_reducible exact LeO.none _)
      | (with_reducible refine LeO.ite ?_ ?_)
      | (with_reducible refine LeO.bind ?_ (fun _ => ?_))
      | exact ih0 _ _ _
      | exact ih1 _ _ _ _ _
      | exact ih2 _ _ _ _ _ _ _ _ _ _
      | exact LeO.none _
      | refine LeO.ite ?_ ?_
      | refine LeO.bind ?_ (fun _ => ?_)
    · intro y0 y1 y2 y3 y4
      unfold impl_AreSlips.l0
      repeat' first
      | (with_reducible exact ih0 _ _ _)
      | (with_reducible exact ih1 _ _ _ _ _)
      | (with_reducible exact ih2 _ _ _ _ _ _ _ _ _ _)
      | (with_reducible exact LeO.refl _)
      | (with_reducible exact LeO.none _)
      | (with_reducible refine LeO.ite ?_ ?_)
      | (with_reducible refine LeO.bind ?_ (fun _ => ?_))
      | exact ih0 _ _ _
      | exact ih1 _ _ _ _ _
      | exact ih2 _ _ _ _ _ _ _ _ _ _
      | exact LeO.none _
      | refine LeO.ite ?_ ?_
      | refine LeO.bind ?_ (fun _ => ?_)
    · intro y0 y1 y2 y3 y4 y5 y6 y7 y8 y9
      unfold impl_AreSlips.j2
      repeat' first
      | (with_reducible exact ih0 _ _ _)
      | (with_reducible exact ih1 _ _ _ _ _)
      | (with_reducible exact ih2 _ _ _ _ _ _ _ _ _ _)
      | (with_reducible exact LeO.refl _)
      | (with_reducible exact LeO.none _)
      | (with_reducible refine LeO.ite ?_ ?_)
      | (with_reducible refine LeO.bind ?_ (fun _ => ?_))
      | exact ih0 _ _ _
      | exact ih1 _ _ _ _ _
      | exact ih2 _ _ _ _ _ _ _ _ _ _
      | exact LeO.none _
      | refine LeO.ite ?_ ?_
      | refine LeO.bind ?_ (fun _ => ?_)
theorem impl_AreSlips.mono : ∀ a0 a1 k, LeO (impl_AreSlips.f k a0 a1) (impl_AreSlips.f (k + 1) a0 a1) := by
  intro a0 a1 k
  obtain ⟨ih0, ih1, ih2⟩ := impl_AreSlips.mono_l k
  unfold impl_AreSlips.f
  repeat' first
      | (with_reducible exact ih0 _ _ _)
      | (with_reducible exact ih1 _ _ _ _ _)
      | (with_reducible exact ih2 _ _ _ _ _ _ _ _ _ _)
      | (with_reducible exact LeO.refl _)
      | (with_reducible exact LeO.none _)
      | (with_reducible refine LeO.ite ?_ ?_)
      | (with_reducible refine LeO.bind ?_ (fun _ => ?_))
      | exact ih0 _ _ _
      | exact ih1 _ _ _ _ _
      | exact ih2 _ _ _ _ _ _ _ _ _ _
      | exact LeO.none _
      | refine LeO.ite ?_ ?_
      | refine LeO.bind ?_ (fun _ => ?_)
def impl_AreSlips.T9 : Bool × List (List Nat × List Nat) := (true, [([], []), ([0], [0]), ([1], [1]), ([2], [2]), ([3, 2], [3]), ([4], [4]), ([5, 4], [4, 5]), ([4], [4]), ([6, 7, 4, 4], [4, 6, 7]), ([8, 4], [4, 8]), ([4, 9], [4, 9]), ([10, 8], [10]), ([11], [11]), ([12, 11], [11, 12]), ([13, 11, 11], [11, 13]), ([14, 11], [11, 14]), ([11, 15], [11, 15]), ([16, 14], [16]), ([17], [17]), ([18, 17], [17, 18]), ([19, 17], [17, 19]), ([20, 17, 17], [17, 20]), ([21], [21]), ([22, 21], [21, 22]), ([23, 21], [21, 23]), ([21, 24, 17], [17, 21, 24]), ([17, 25], [17, 25]), ([26, 21], [26]), ([27], [27]), ([28, 27], [27, 28]), ([29, 27, 27], [27, 29]), ([30], [30]), ([30], [30]), ([32, 30], [30, 32]), ([31, 33, 30], [30, 31, 33]), ([34, 30], [30, 34]), ([35, 30], [30, 35]), ([30], [30]), ([37, 30], [30, 37]), ([36, 38, 30], [30, 36, 38]), ([30, 39, 27], [27, 30, 39]), ([27, 40], [27, 40])])
def impl_AreSlips.B9 : List Nat := [0, 1, 3, 7, 15, 31, 63, 31, 255, 511, 1023, 2047, 4095, 8191, 16383, 32767, 65535, 131071, 262143, 524287, 1048575, 2097151, 4194303, 8388607, 16777215, 33554431, 67108863, 134217727, 268435455, 536870911, 1073741823, 2147483647, 2147483647, 6442450943, 17179869183, 34359738367, 68719476735, 2147483647, 139586437119, 549755813887, 1099511627775, 2199023255551]
theorem impl_AreSlips.tab9 : rtab .any (opsOf Try.f106 9) = impl_AreSlips.T9 := by kernel_rfl
theorem impl_AreSlips.bits9 : waitsOk impl_AreSlips.T9.2 impl_AreSlips.B9 = true := by kernel_rfl
set_option maxHeartbeats 8000000 in
set_option maxRecDepth 100000 in
theorem impl_AreSlips.calls (k : Nat) (A0 : Option Addr) (c0 : Nat) (l0 : List (S63)) (a1 : Int) (r : Bool) (w : World) (hr0 : Kd.C k63 w A0 l0.length l0) (hc0 : l0.length ≤ c0) (h : impl_AreSlips.f k l0 a1 = some r) :
    Calls Try.prog 106 #[.slice A0 l0.length c0, .int .i64 a1] w fun e w' => e = .returned (.bool r) ∧ Below w.heap.size w w' := by
  have hu63 := Try.underlying63
  have HR0 := Aside0.mk hr0
  have HC0 := Aside0.mk hc0
  clear hr0 hc0
  have HB := Aside0.mk (Below.refl w.heap.size w)
  have H : (if (l0.length : Int) > 8 then (impl_AreSlips.j0 k l0 a1 true) else ((impl_InRange.f a1 0 1000).bind fun t1090 => (impl_AreSlips.j0 k l0 a1 (!t1090)))) = some r := h
  clear h
  have HC3 := Aside0.mk H
  clear H
  go_enter Try.func106, Try.ntmps106
  go_upto_region 1 with (fail)
  go_cut [15] (fun v15 wc => ∃ (kq : Nat) (x15_2 : Bool), v15 = .bool x15_2 ∧ Aside0 (impl_AreSlips.j0 kq l0 a1 x15_2 = some r) ∧ Aside0 (kq ≤ k) ∧ Aside0 (Below w.heap.size w wc))
  case first =>
    have H := HC3.out
    clear HC3
    by_cases c4 : (l0.length : Int) > 8
    · rw [if_pos c4] at H
      have c4b0 : decide (8 < (l0.length : Int)) = true := decide_eq_true c4
      have c4b1 : decide (8 < l0.length) = true := decide_eq_true (by omega)
      clear c4
      (first | rw [c4b0] | (simp only [i64_w, i32_w]; rw [c4b0]) | skip)
      have H' := Aside0.mk H
      clear H
      go_wp2
      go_meet
      case rel => exact ⟨_, (true), (by first | rfl | (simp; done) | (simp [*]; done)), H', ⟨by first | omega | exact Nat.le_refl _⟩, ⟨by repeat (first | (with_reducible first | exact HB.out | apply below_alloc | apply pw_below_drewN | apply below_drew1) | exact HB.out)⟩⟩
    · rw [if_neg c4] at H
      have c4b0 : decide (8 < (l0.length : Int)) = false := decide_eq_false c4
      have c4b1 : decide (8 < l0.length) = false := decide_eq_false (by omega)
      clear c4
      (first | rw [c4b0] | (simp only [i64_w, i32_w]; rw [c4b0]) | skip)
      replace H := Option.bind_eq_some_iff.mp H
      obtain ⟨t1090, A50, H⟩ := H
      replace H : (impl_AreSlips.j0 k l0 a1 (!t1090)) = some r := H
      have A5 := Aside0.mk A50
      clear A50
      have H' := Aside0.mk H
      clear H
      go_wp2_with (first | (go_at_call 86; (with_reducible refine (impl_InRange.calls a1 0 1000 t1090 _ A5.out).mono ?_); rintro e w' ⟨rfl, ⟨nd, rfl⟩⟩))
      go_meet
      case rel => exact ⟨_, (!t1090), (by first | rfl | (simp; done) | (simp [*]; done)), H', ⟨by first | omega | exact Nat.le_refl _⟩, ⟨by repeat (first | (with_reducible first | exact HB.out | apply below_alloc | apply pw_below_drewN | apply below_drew1) | exact HB.out)⟩⟩
  case rest =>
    clear HC3
    try clear c1
    try clear p2
    try clear c4
    try clear c4b0
    try clear c4b1
    obtain ⟨kq, x15_2, rfl, HA, HJ2, HB⟩ := hcut
    cases kq with
    | zero => exact absurd HA.out (by simp [impl_AreSlips.j0])
    | succ kj2 =>
      have H := HA.out
      clear HA
      simp only [impl_AreSlips.j0] at H
      by_cases c6 : x15_2 = true
      · subst c6
        have H1 : (some false) = some r := by rw [if_pos rfl] at H; exact H
        clear H
        have H := H1
        clear H1
        obtain rfl := Option.some.inj H
        go_wp2
        go_ret
        exact ⟨by first | rfl | (simp [errW_none, errW_some] <;> rfl) | (simp [*, errW_none, errW_some] <;> rfl), by repeat (first | (with_reducible first | exact HB.out | apply below_alloc | apply pw_below_drewN | apply below_drew1) | exact HB.out)⟩
      · replace c6 := Bool.eq_false_iff.mpr c6
        subst c6
        have H1 : (impl_AreSlips.l0 kj2 l0 a1 l0 (l0.length : Int) 0) = some r := by rw [if_neg (show ¬ (false = true) by decide)] at H; exact H
        clear H
        have H := H1
        clear H1
        have H' := Aside0.mk H
        clear H
        go_wp2
        go_loopg [18] kj2 (fun kq v18 w' => ∃ (x18_2 : Int), v18 = .int .i64 x18_2 ∧ Aside0 (impl_AreSlips.l0 kq l0 a1 l0 (l0.length : Int) x18_2 = some r) ∧ Aside0 (kq ≤ kj2) ∧ Aside0 (Below w.heap.size w w'))
        case atStart => exact ⟨(0), (by first | rfl | (simp; done) | (simp [*]; done)), H', ⟨Nat.le_refl _⟩, ⟨by repeat (first | (with_reducible first | exact HB.out | apply below_alloc | apply pw_below_drewN | apply below_drew1) | exact HB.out)⟩⟩
        case round =>
          clear H'
          try clear c1
          try clear p2
          try clear c4
          try clear c4b0
          try clear c4b1
          try clear c6
          try clear p2
          obtain ⟨x18_2, rfl, HA, HK2, HB⟩ := hrel
          cases gk with
          | zero => exact absurd HA.out (by simp [impl_AreSlips.l0])
          | succ k2 =>
            have H := HA.out
            clear HA
            simp only [impl_AreSlips.l0] at H
            by_cases c7 : x18_2 < (l0.length : Int)
            · rw [if_pos c7] at H
              have c7b0 : decide (x18_2 < (l0.length : Int)) = true := decide_eq_true c7
              clear c7
              by_cases c8 : 0 ≤ x18_2
              · rw [if_pos c8] at H
                have c8b0 : decide (0 ≤ x18_2) = true := decide_eq_true c8
                clear c8
                by_cases c9 : x18_2 < (l0.length : Int)
                · rw [if_pos c9] at H
                  have c9b0 : decide (x18_2 < (l0.length : Int)) = true := decide_eq_true c9
                  clear c9
                  have HC10 := Aside0.mk H
                  clear H
                  have p1091 : 0 ≤ (x18_2 : Int) := of_decide_eq_true (by first | (with_reducible assumption) | assumption)
                  have q1091 : x18_2 < (l0.length : Int) := of_decide_eq_true (by first | (with_reducible assumption) | assumption)
                  obtain ⟨ad1091, e1091, hx1091_0, hx1091_1, hx1091_2⟩ := at_T63 HR0.out x18_2 p1091 q1091
                  cases e1091
                  replace hx1091_0 := (HB.out.cell (World.block_lt_of_cell? w _ hx1091_0)).trans hx1091_0
                  replace hx1091_1 := (HB.out.cell (World.block_lt_of_cell? w _ hx1091_1)).trans hx1091_1
                  replace hx1091_2 := (HB.out.cell (World.block_lt_of_cell? w _ hx1091_2)).trans hx1091_2
                  replace p1091 := eq_true p1091
                  replace q1091 := eq_true q1091
                  go_upto_if 27 with (first | ((with_reducible refine gate_dst (N := 6) rfl ?_); refine box_event ?hg (N := 6) ?hd (cs := #[.int .i64 0, .int .i64 0, .int .i64 0]) (t := 63) ?hr ?_; (case hd => rfl); (case hg => rfl); (case hr => first | (go_simp; done) | (go_simp; rfl)); intro gb1092 hg w11 hbox hb; have n0_ := Aside0.mk (below_step (by repeat (first | (with_reducible first | exact HB.out | apply below_alloc | apply pw_below_drewN | apply below_drew1) | exact HB.out)) hb); have n1_ := Aside0.mk (hbox); have n2_ := Aside0.mk ((by rw [hg]; exact (below_size (by repeat (first | (with_reducible first | exact HB.out | apply below_alloc | apply pw_below_drewN | apply below_drew1) | exact HB.out))) : w.heap.size ≤ gb1092)); have n3_ := Aside0.mk ((by rw [hg]; exact (below_size (by repeat (first | (with_reducible first | exact HB.out | apply below_alloc | apply pw_below_drewN | apply below_drew1) | exact HB.out))) : w.heap.size ≤ gb1092)); clear HB; have HB := n0_; have BK1092 := n1_; have GW1092 := n2_; have GE1092 := n3_; clear n0_ n1_ n2_ n3_; clear hb hbox hg; have hcz12_0 : w11.cell? ⟨gb1092, 0, none⟩ = some (.int .i64 0) := (blk_cell BK1092.out 0).trans rfl; have hcz12_1 : w11.cell? ⟨gb1092, 1, none⟩ = some (.int .i64 0) := (blk_cell BK1092.out 1).trans rfl; have hcz12_2 : w11.cell? ⟨gb1092, 2, none⟩ = some (.int .i64 0) := (blk_cell BK1092.out 2).trans rfl; have hfz12_0 := blk_frozen BK1092.out 0; have hfz12_1 := blk_frozen BK1092.out 1; have hfz12_2 := blk_frozen BK1092.out 2))
                  (try simp only [Act.put, List.setIfInBounds_toArray, List.set_cons_zero, List.set_cons_succ])
                  go_cut [7] (fun v7 wc => ∃ (kq : Nat) (x7_9 : Int), v7 = .int .i64 x7_9 ∧ Aside0 (impl_AreSlips.j2 kq l0 a1 x18_2 x7_9 l0 (l0.length : Int) x18_2 ((rd_T63 l0 x18_2).f0) ((rd_T63 l0 x18_2).f1) ((rd_T63 l0 x18_2).f2) = some r) ∧ Aside0 (kq ≤ k2) ∧ Aside0 (wc.heap[gb1092]? = some (.cells #[.int .i64 ((rd_T63 l0 x18_2).f0), .int .i64 ((rd_T63 l0 x18_2).f1), .int .i64 ((rd_T63 l0 x18_2).f2)] 63 (0, 0))) ∧ Aside0 (Below w.heap.size w wc))
                  case first =>
                    have H := HC10.out
                    clear HC10
                    by_cases c13 : ((rd_T63 l0 x18_2).f0) = 3
                    · rw [if_pos c13] at H
                      have c13b0 : (((rd_T63 l0 x18_2).f0) == 3) = true := beq_iff_eq.mpr c13
                      have c13b1 : (((rd_T63 l0 x18_2).f0) != 3) = false := bne_eq_false_iff_eq.mpr c13
                      clear c13
                      (first | rw [c13b0] | (simp only [i64_w, i32_w]; rw [c13b0]) | skip)
                      have H' := Aside0.mk H
                      clear H
                      go_wp2
                      go_meet
                      case rel => exact ⟨_, (a1), (by first | rfl | (simp; done) | (simp [*]; done)), H', ⟨by have := HJ2.out; have := HK2.out; first | omega | exact Nat.le_refl _⟩, ⟨by (with_reducible repeat (first | refine blk_drewN ?_ _ | refine blk_drew ?_ | refine blk_alloc ?_ _)); refine blk_put (cs := #[.int .i64 ((rd_T63 l0 x18_2).f0), .int .i64 ((rd_T63 l0 x18_2).f1), .int .i64 0]) ?_ 2 _ rfl; (with_reducible repeat (first | refine blk_drewN ?_ _ | refine blk_drew ?_ | refine blk_alloc ?_ _)); refine blk_put (cs := #[.int .i64 ((rd_T63 l0 x18_2).f0), .int .i64 0, .int .i64 0]) ?_ 1 _ rfl; (with_reducible repeat (first | refine blk_drewN ?_ _ | refine blk_drew ?_ | refine blk_alloc ?_ _)); refine blk_put (cs := #[.int .i64 0, .int .i64 0, .int .i64 0]) ?_ 0 _ rfl; (with_reducible repeat (first | refine blk_drewN ?_ _ | refine blk_drew ?_ | refine blk_alloc ?_ _)); exact BK1092.out⟩, ⟨by repeat (first | (with_reducible first | exact HB.out | apply below_alloc | apply pw_below_drewN | apply below_drew1 | refine below_set ?_ GE1092.out) | exact HB.out)⟩⟩
                    · rw [if_neg c13] at H
                      have c13b0 : (((rd_T63 l0 x18_2).f0) == 3) = false := beq_eq_false_iff_ne.mpr c13
                      have c13b1 : (((rd_T63 l0 x18_2).f0) != 3) = true := bne_iff_ne.mpr c13
                      (first | rw [c13b0] | (simp only [i64_w, i32_w]; rw [c13b0]) | skip)
                      have H' := Aside0.mk H
                      clear H
                      go_wp2
                      go_meet
                      case rel => exact ⟨_, (wrap64 (a1 - 1)), (by first | rfl | (simp; done) | (simp [*]; done)), H', ⟨by have := HJ2.out; have := HK2.out; first | omega | exact Nat.le_refl _⟩, ⟨by (with_reducible repeat (first | refine blk_drewN ?_ _ | refine blk_drew ?_ | refine blk_alloc ?_ _)); refine blk_put (cs := #[.int .i64 ((rd_T63 l0 x18_2).f0), .int .i64 ((rd_T63 l0 x18_2).f1), .int .i64 0]) ?_ 2 _ rfl; (with_reducible repeat (first | refine blk_drewN ?_ _ | refine blk_drew ?_ | refine blk_alloc ?_ _)); refine blk_put (cs := #[.int .i64 ((rd_T63 l0 x18_2).f0), .int .i64 0, .int .i64 0]) ?_ 1 _ rfl; (with_reducible repeat (first | refine blk_drewN ?_ _ | refine blk_drew ?_ | refine blk_alloc ?_ _)); refine blk_put (cs := #[.int .i64 0, .int .i64 0, .int .i64 0]) ?_ 0 _ rfl; (with_reducible repeat (first | refine blk_drewN ?_ _ | refine blk_drew ?_ | refine blk_alloc ?_ _)); exact BK1092.out⟩, ⟨by repeat (first | (with_reducible first | exact HB.out | apply below_alloc | apply pw_below_drewN | apply below_drew1 | refine below_set ?_ GE1092.out) | exact HB.out)⟩⟩
                  case rest =>
                    clear HC10
                    try clear c1
                    try clear p1
                    try clear q1
                    try clear hx1
                    try clear p2
                    try clear c4
                    try clear c4b0
                    try clear c4b1
                    try clear c6
                    try clear p6
                    try clear c7
                    try clear c7b0
                    try clear c8
                    try clear c8b0
                    try clear c9
                    try clear c9b0
                    try clear c10
                    try clear p10
                    try clear q10
                    try clear hx10
                    try clear c13
                    try clear c13b0
                    try clear c13b1
                    try clear hcz12_0
                    try clear hcz12_1
                    try clear hcz12_2
                    try clear hfz12_0
                    try clear hfz12_1
                    try clear hfz12_2
                    try clear hx1091_0
                    try clear hx1091_1
                    try clear hx1091_2
                    try clear p1091
                    try clear p2
                    try clear q1091
                    obtain ⟨kq, x7_9, rfl, HA, HJ9, BK1092, HB⟩ := hcut
                    cases kq with
                    | zero => exact absurd HA.out (by simp [impl_AreSlips.j2])
                    | succ kj9 =>
                      have H := HA.out
                      clear HA
                      simp only [impl_AreSlips.j2] at H
                      replace H := Option.bind_eq_some_iff.mp H
                      obtain ⟨t1093, A140, H⟩ := H
                      replace H : (if t1093 = true then ((impl_InRange.f ((rd_T63 l0 x18_2).f1) 0 x7_9).bind fun t1094 => (if t1094 = true then ((impl_InRange.f ((rd_T63 l0 x18_2).f2) 0 127).bind fun t1095 => (if t1095 = true then (if ((rd_T63 l0 x18_2).f0) = 2 then (if ((rd_T63 l0 x18_2).f2) = 0 then (if x18_2 > 0 then (if 0 ≤ (wrap64 (x18_2 - 1)) then (if (wrap64 (x18_2 - 1)) < (l0.length : Int) then (if ((rd_T63 l0 (wrap64 (x18_2 - 1))).f1) ≤ ((rd_T63 l0 x18_2).f1) then (some false) else (impl_AreSlips.l0 kj9 l0 a1 l0 (l0.length : Int) (wrap64 (x18_2 + 1)))) else (none)) else (none)) else (impl_AreSlips.l0 kj9 l0 a1 l0 (l0.length : Int) (wrap64 (x18_2 + 1)))) else (some false)) else (if x18_2 > 0 then (if 0 ≤ (wrap64 (x18_2 - 1)) then (if (wrap64 (x18_2 - 1)) < (l0.length : Int) then (if ((rd_T63 l0 (wrap64 (x18_2 - 1))).f1) ≤ ((rd_T63 l0 x18_2).f1) then (some false) else (impl_AreSlips.l0 kj9 l0 a1 l0 (l0.length : Int) (wrap64 (x18_2 + 1)))) else (none)) else (none)) else (impl_AreSlips.l0 kj9 l0 a1 l0 (l0.length : Int) (wrap64 (x18_2 + 1))))) else (some false))) else (some false))) else (some false)) = some r := H
                      have A14 := Aside0.mk A140
                      clear A140
                      by_cases c15 : t1093 = true
                      · subst c15
                        have H1 : ((impl_InRange.f ((rd_T63 l0 x18_2).f1) 0 x7_9).bind fun t1094 => (if t1094 = true then ((impl_InRange.f ((rd_T63 l0 x18_2).f2) 0 127).bind fun t1095 => (if t1095 = true then (if ((rd_T63 l0 x18_2).f0) = 2 then (if ((rd_T63 l0 x18_2).f2) = 0 then (if x18_2 > 0 then (if 0 ≤ (wrap64 (x18_2 - 1)) then (if (wrap64 (x18_2 - 1)) < (l0.length : Int) then (if ((rd_T63 l0 (wrap64 (x18_2 - 1))).f1) ≤ ((rd_T63 l0 x18_2).f1) then (some false) else (impl_AreSlips.l0 kj9 l0 a1 l0 (l0.length : Int) (wrap64 (x18_2 + 1)))) else (none)) else (none)) else (impl_AreSlips.l0 kj9 l0 a1 l0 (l0.length : Int) (wrap64 (x18_2 + 1)))) else (some false)) else (if x18_2 > 0 then (if 0 ≤ (wrap64 (x18_2 - 1)) then (if (wrap64 (x18_2 - 1)) < (l0.length : Int) then (if ((rd_T63 l0 (wrap64 (x18_2 - 1))).f1) ≤ ((rd_T63 l0 x18_2).f1) then (some false) else (impl_AreSlips.l0 kj9 l0 a1 l0 (l0.length : Int) (wrap64 (x18_2 + 1)))) else (none)) else (none)) else (impl_AreSlips.l0 kj9 l0 a1 l0 (l0.length : Int) (wrap64 (x18_2 + 1))))) else (some false))) else (some false))) = some r := by rw [if_pos rfl] at H; exact H
                        clear H
                        have H := H1
                        clear H1
                        replace H := Option.bind_eq_some_iff.mp H
                        obtain ⟨t1094, A160, H⟩ := H
                        replace H : (if t1094 = true then ((impl_InRange.f ((rd_T63 l0 x18_2).f2) 0 127).bind fun t1095 => (if t1095 = true then (if ((rd_T63 l0 x18_2).f0) = 2 then (if ((rd_T63 l0 x18_2).f2) = 0 then (if x18_2 > 0 then (if 0 ≤ (wrap64 (x18_2 - 1)) then (if (wrap64 (x18_2 - 1)) < (l0.length : Int) then (if ((rd_T63 l0 (wrap64 (x18_2 - 1))).f1) ≤ ((rd_T63 l0 x18_2).f1) then (some false) else (impl_AreSlips.l0 kj9 l0 a1 l0 (l0.length : Int) (wrap64 (x18_2 + 1)))) else (none)) else (none)) else (impl_AreSlips.l0 kj9 l0 a1 l0 (l0.length : Int) (wrap64 (x18_2 + 1)))) else (some false)) else (if x18_2 > 0 then (if 0 ≤ (wrap64 (x18_2 - 1)) then (if (wrap64 (x18_2 - 1)) < (l0.length : Int) then (if ((rd_T63 l0 (wrap64 (x18_2 - 1))).f1) ≤ ((rd_T63 l0 x18_2).f1) then (some false) else (impl_AreSlips.l0 kj9 l0 a1 l0 (l0.length : Int) (wrap64 (x18_2 + 1)))) else (none)) else (none)) else (impl_AreSlips.l0 kj9 l0 a1 l0 (l0.length : Int) (wrap64 (x18_2 + 1))))) else (some false))) else (some false)) = some r := H
                        have A16 := Aside0.mk A160
                        clear A160
                        by_cases c17 : t1094 = true
                        · subst c17
                          have H1 : ((impl_InRange.f ((rd_T63 l0 x18_2).f2) 0 127).bind fun t1095 => (if t1095 = true then (if ((rd_T63 l0 x18_2).f0) = 2 then (if ((rd_T63 l0 x18_2).f2) = 0 then (if x18_2 > 0 then (if 0 ≤ (wrap64 (x18_2 - 1)) then (if (wrap64 (x18_2 - 1)) < (l0.length : Int) then (if ((rd_T63 l0 (wrap64 (x18_2 - 1))).f1) ≤ ((rd_T63 l0 x18_2).f1) then (some false) else (impl_AreSlips.l0 kj9 l0 a1 l0 (l0.length : Int) (wrap64 (x18_2 + 1)))) else (none)) else (none)) else (impl_AreSlips.l0 kj9 l0 a1 l0 (l0.length : Int) (wrap64 (x18_2 + 1)))) else (some false)) else (if x18_2 > 0 then (if 0 ≤ (wrap64 (x18_2 - 1)) then (if (wrap64 (x18_2 - 1)) < (l0.length : Int) then (if ((rd_T63 l0 (wrap64 (x18_2 - 1))).f1) ≤ ((rd_T63 l0 x18_2).f1) then (some false) else (impl_AreSlips.l0 kj9 l0 a1 l0 (l0.length : Int) (wrap64 (x18_2 + 1)))) else (none)) else (none)) else (impl_AreSlips.l0 kj9 l0 a1 l0 (l0.length : Int) (wrap64 (x18_2 + 1))))) else (some false))) = some r := by rw [if_pos rfl] at H; exact H
                          clear H
                          have H := H1
                          clear H1
                          replace H := Option.bind_eq_some_iff.mp H
                          obtain ⟨t1095, A180, H⟩ := H
                          replace H : (if t1095 = true then (if ((rd_T63 l0 x18_2).f0) = 2 then (if ((rd_T63 l0 x18_2).f2) = 0 then (if x18_2 > 0 then (if 0 ≤ (wrap64 (x18_2 - 1)) then (if (wrap64 (x18_2 - 1)) < (l0.length : Int) then (if ((rd_T63 l0 (wrap64 (x18_2 - 1))).f1) ≤ ((rd_T63 l0 x18_2).f1) then (some false) else (impl_AreSlips.l0 kj9 l0 a1 l0 (l0.length : Int) (wrap64 (x18_2 + 1)))) else (none)) else (none)) else (impl_AreSlips.l0 kj9 l0 a1 l0 (l0.length : Int) (wrap64 (x18_2 + 1)))) else (some false)) else (if x18_2 > 0 then (if 0 ≤ (wrap64 (x18_2 - 1)) then (if (wrap64 (x18_2 - 1)) < (l0.length : Int) then (if ((rd_T63 l0 (wrap64 (x18_2 - 1))).f1) ≤ ((rd_T63 l0 x18_2).f1) then (some false) else (impl_AreSlips.l0 kj9 l0 a1 l0 (l0.length : Int) (wrap64 (x18_2 + 1)))) else (none)) else (none)) else (impl_AreSlips.l0 kj9 l0 a1 l0 (l0.length : Int) (wrap64 (x18_2 + 1))))) else (some false)) = some r := H
                          have A18 := Aside0.mk A180
                          clear A180
                          by_cases c19 : t1095 = true
                          · subst c19
                            have H1 : (if ((rd_T63 l0 x18_2).f0) = 2 then (if ((rd_T63 l0 x18_2).f2) = 0 then (if x18_2 > 0 then (if 0 ≤ (wrap64 (x18_2 - 1)) then (if (wrap64 (x18_2 - 1)) < (l0.length : Int) then (if ((rd_T63 l0 (wrap64 (x18_2 - 1))).f1) ≤ ((rd_T63 l0 x18_2).f1) then (some false) else (impl_AreSlips.l0 kj9 l0 a1 l0 (l0.length : Int) (wrap64 (x18_2 + 1)))) else (none)) else (none)) else (impl_AreSlips.l0 kj9 l0 a1 l0 (l0.length : Int) (wrap64 (x18_2 + 1)))) else (some false)) else (if x18_2 > 0 then (if 0 ≤ (wrap64 (x18_2 - 1)) then (if (wrap64 (x18_2 - 1)) < (l0.length : Int) then (if ((rd_T63 l0 (wrap64 (x18_2 - 1))).f1) ≤ ((rd_T63 l0 x18_2).f1) then (some false) else (impl_AreSlips.l0 kj9 l0 a1 l0 (l0.length : Int) (wrap64 (x18_2 + 1)))) else (none)) else (none)) else (impl_AreSlips.l0 kj9 l0 a1 l0 (l0.length : Int) (wrap64 (x18_2 + 1))))) = some r := by rw [if_pos rfl] at H; exact H
                            clear H
                            have H := H1
                            clear H1
                            by_cases c20 : ((rd_T63 l0 x18_2).f0) = 2
                            · rw [if_pos c20] at H
                              have c20b0 : (((rd_T63 l0 x18_2).f0) == 2) = true := beq_iff_eq.mpr c20
                              have c20b1 : (((rd_T63 l0 x18_2).f0) != 2) = false := bne_eq_false_iff_eq.mpr c20
                              clear c20
                              by_cases c21 : ((rd_T63 l0 x18_2).f2) = 0
                              · rw [if_pos c21] at H
                                have c21b0 : (((rd_T63 l0 x18_2).f2) == 0) = true := beq_iff_eq.mpr c21
                                have c21b1 : (((rd_T63 l0 x18_2).f2) != 0) = false := bne_eq_false_iff_eq.mpr c21
                                clear c21
                                by_cases c22 : x18_2 > 0
                                · rw [if_pos c22] at H
                                  have c22b0 : decide (0 < x18_2) = true := decide_eq_true c22
                                  clear c22
                                  obtain ⟨ji23, hji23⟩ : ∃ j_ : Int, (wrap64 (x18_2 - 1)) = j_ := ⟨_, rfl⟩
                                  replace H : (if 0 ≤ (ji23) then (if (ji23) < (l0.length : Int) then (if ((rd_T63 l0 (ji23)).f1) ≤ ((rd_T63 l0 x18_2).f1) then (some false) else (impl_AreSlips.l0 kj9 l0 a1 l0 (l0.length : Int) (wrap64 (x18_2 + 1)))) else (none)) else (none)) = some r := by first | (rw [hji23] at H; exact H) | (simp only [hji23] at H ⊢; exact H)
                                  (try rw [hji23] at A14)
                                  (try rw [hji23] at A16)
                                  (try rw [hji23] at A18)
                                  have hji23w : (IntKind.i64.wrap (x18_2 - 1)) = ji23 := (i64_w _).trans hji23
                                  by_cases c24 : 0 ≤ (ji23)
                                  · rw [if_pos c24] at H
                                    have c24b0 : decide (0 ≤ (ji23)) = true := decide_eq_true c24
                                    clear c24
                                    by_cases c25 : (ji23) < (l0.length : Int)
                                    · rw [if_pos c25] at H
                                      have c25b0 : decide ((ji23) < (l0.length : Int)) = true := decide_eq_true c25
                                      clear c25
                                      by_cases c26 : ((rd_T63 l0 (ji23)).f1) ≤ ((rd_T63 l0 x18_2).f1)
                                      · rw [if_pos c26] at H
                                        have c26b0 : decide (((rd_T63 l0 (ji23)).f1) ≤ ((rd_T63 l0 x18_2).f1)) = true := decide_eq_true c26
                                        clear c26
                                        obtain rfl := Option.some.inj H
                                        try go_wp2
                                        have n0_ := Aside0.mk (blk_drew BK1092.out)
                                        have n1_ := Aside0.mk (below_drew1 HB.out)
                                        clear BK1092
                                        clear HB
                                        have BK1092 := n0_
                                        have HB := n1_
                                        clear n0_ n1_
                                        have p1096 : 0 ≤ ((ji23) : Int) := of_decide_eq_true (by first | (with_reducible assumption) | assumption)
                                        have q1096 : (ji23) < (l0.length : Int) := of_decide_eq_true (by first | (with_reducible assumption) | assumption)
                                        obtain ⟨ad1096, e1096, hx1096_0, hx1096_1, hx1096_2⟩ := at_T63 HR0.out (ji23) p1096 q1096
                                        have hw1096_2 := hx1096_2
                                        have hw1096_1 := hx1096_1
                                        have hw1096_0 := hx1096_0
                                        obtain rfl : ad1091 = ad1096 := (by injection e1096)
                                        replace hx1096_0 := (HB.out.cell (World.block_lt_of_cell? w _ hx1096_0)).trans hx1096_0
                                        replace hx1096_1 := (HB.out.cell (World.block_lt_of_cell? w _ hx1096_1)).trans hx1096_1
                                        replace hx1096_2 := (HB.out.cell (World.block_lt_of_cell? w _ hx1096_2)).trans hx1096_2
                                        replace p1096 := eq_true p1096
                                        replace q1096 := eq_true q1096
                                        have hq0_ : wc.cell? ⟨gb1092, 0, none⟩ = some (.int .i64 ((rd_T63 l0 x18_2).f0)) := (blk_cell BK1092.out 0).trans rfl
                                        have hq1_ : wc.cell? ⟨gb1092, 1, none⟩ = some (.int .i64 ((rd_T63 l0 x18_2).f1)) := (blk_cell BK1092.out 1).trans rfl
                                        have hq2_ : wc.cell? ⟨gb1092, 2, none⟩ = some (.int .i64 ((rd_T63 l0 x18_2).f2)) := (blk_cell BK1092.out 2).trans rfl
                                        have hq3_ : wc.cell? (ad1091.add (((ji23)).toNat * 3)) = some (.int .i64 ((rd_T63 l0 (ji23)).f0)) := ((HB.out.cell (World.block_lt_of_cell? w _ hw1096_0)).trans hw1096_0)
                                        have hq4_ : wc.cell? ⟨(ad1091.add (((ji23)).toNat * 3)).block, (ad1091.add (((ji23)).toNat * 3)).off + 1, none⟩ = some (.int .i64 ((rd_T63 l0 (ji23)).f1)) := ((HB.out.cell (World.block_lt_of_cell? w _ hw1096_1)).trans hw1096_1)
                                        have hq5_ : wc.cell? ⟨(ad1091.add (((ji23)).toNat * 3)).block, (ad1091.add (((ji23)).toNat * 3)).off + 2, none⟩ = some (.int .i64 ((rd_T63 l0 (ji23)).f2)) := ((HB.out.cell (World.block_lt_of_cell? w _ hw1096_2)).trans hw1096_2)
                                        go_quiet ((first | (go_at_call 86; apply Calls.quiet_of; ((with_reducible refine (impl_InRange.calls ((rd_T63 l0 x18_2).f0) 1 3 true _ A14.out).mono ?_); exact fun _ _ h_ => ⟨h_.1, h_.2.out⟩)) | (go_at_call 86; apply Calls.quiet_of; ((with_reducible refine (impl_InRange.calls ((rd_T63 l0 x18_2).f1) 0 x7_9 true _ A16.out).mono ?_); exact fun _ _ h_ => ⟨h_.1, h_.2.out⟩)) | (go_at_call 86; apply Calls.quiet_of; ((with_reducible refine (impl_InRange.calls ((rd_T63 l0 x18_2).f2) 0 127 true _ A18.out).mono ?_); exact fun _ _ h_ => ⟨h_.1, h_.2.out⟩))))
                                        have nBK1092_ := Aside0.mk (blk_drewN (w := wc) BK1092.out nq)
                                        have nHB_ := Aside0.mk (pw_below_drewN (W := wc) ⟨HB.out.os, HB.out.tape, HB.out.output, HB.out.size, HB.out.block⟩ nq)
                                        have nhx1096_0_ : (wc.drewN nq).cell? _ = _ := hx1096_0
                                        have nhx1096_1_ : (wc.drewN nq).cell? _ = _ := hx1096_1
                                        have nhx1096_2_ : (wc.drewN nq).cell? _ = _ := hx1096_2
                                        clear BK1092 HB hx1096_0 hx1096_1 hx1096_2 hq0_ hq1_ hq2_ hq3_ hq4_ hq5_
                                        have BK1092 := nBK1092_
                                        have HB := nHB_
                                        have hx1096_0 := nhx1096_0_
                                        have hx1096_1 := nhx1096_1_
                                        have hx1096_2 := nhx1096_2_
                                        clear nBK1092_ nHB_ nhx1096_0_ nhx1096_1_ nhx1096_2_
                                        generalize wc.drewN nq = w27 at BK1092 HB hx1096_0 hx1096_1 hx1096_2 ⊢
                                        try go_wp2
                                        go_ret
                                        exact ⟨by first | rfl | (simp [errW_none, errW_some] <;> rfl) | (simp only [← hji23]; first | rfl | (simp [errW_none, errW_some] <;> rfl)) | (simp [*, errW_none, errW_some] <;> rfl), by repeat (first | (with_reducible first | exact HB.out | apply below_alloc | apply pw_below_drewN | apply below_drew1 | refine below_set ?_ GE1092.out) | exact HB.out)⟩
                                      · rw [if_neg c26] at H
                                        have c26b0 : decide (((rd_T63 l0 (ji23)).f1) ≤ ((rd_T63 l0 x18_2).f1)) = false := decide_eq_false c26
                                        clear c26
                                        have H' := Aside0.mk H
                                        clear H
                                        try go_wp2
                                        have n0_ := Aside0.mk (blk_drew BK1092.out)
                                        have n1_ := Aside0.mk (below_drew1 HB.out)
                                        clear BK1092
                                        clear HB
                                        have BK1092 := n0_
                                        have HB := n1_
                                        clear n0_ n1_
                                        have p1096 : 0 ≤ ((ji23) : Int) := of_decide_eq_true (by first | (with_reducible assumption) | assumption)
                                        have q1096 : (ji23) < (l0.length : Int) := of_decide_eq_true (by first | (with_reducible assumption) | assumption)
                                        obtain ⟨ad1096, e1096, hx1096_0, hx1096_1, hx1096_2⟩ := at_T63 HR0.out (ji23) p1096 q1096
                                        have hw1096_2 := hx1096_2
                                        have hw1096_1 := hx1096_1
                                        have hw1096_0 := hx1096_0
                                        obtain rfl : ad1091 = ad1096 := (by injection e1096)
                                        replace hx1096_0 := (HB.out.cell (World.block_lt_of_cell? w _ hx1096_0)).trans hx1096_0
                                        replace hx1096_1 := (HB.out.cell (World.block_lt_of_cell? w _ hx1096_1)).trans hx1096_1
                                        replace hx1096_2 := (HB.out.cell (World.block_lt_of_cell? w _ hx1096_2)).trans hx1096_2
                                        replace p1096 := eq_true p1096
                                        replace q1096 := eq_true q1096
                                        have hq0_ : wc.cell? ⟨gb1092, 0, none⟩ = some (.int .i64 ((rd_T63 l0 x18_2).f0)) := (blk_cell BK1092.out 0).trans rfl
                                        have hq1_ : wc.cell? ⟨gb1092, 1, none⟩ = some (.int .i64 ((rd_T63 l0 x18_2).f1)) := (blk_cell BK1092.out 1).trans rfl
                                        have hq2_ : wc.cell? ⟨gb1092, 2, none⟩ = some (.int .i64 ((rd_T63 l0 x18_2).f2)) := (blk_cell BK1092.out 2).trans rfl
                                        have hq3_ : wc.cell? (ad1091.add (((ji23)).toNat * 3)) = some (.int .i64 ((rd_T63 l0 (ji23)).f0)) := ((HB.out.cell (World.block_lt_of_cell? w _ hw1096_0)).trans hw1096_0)
                                        have hq4_ : wc.cell? ⟨(ad1091.add (((ji23)).toNat * 3)).block, (ad1091.add (((ji23)).toNat * 3)).off + 1, none⟩ = some (.int .i64 ((rd_T63 l0 (ji23)).f1)) := ((HB.out.cell (World.block_lt_of_cell? w _ hw1096_1)).trans hw1096_1)
                                        have hq5_ : wc.cell? ⟨(ad1091.add (((ji23)).toNat * 3)).block, (ad1091.add (((ji23)).toNat * 3)).off + 2, none⟩ = some (.int .i64 ((rd_T63 l0 (ji23)).f2)) := ((HB.out.cell (World.block_lt_of_cell? w _ hw1096_2)).trans hw1096_2)
                                        go_quiet ((first | (go_at_call 86; apply Calls.quiet_of; ((with_reducible refine (impl_InRange.calls ((rd_T63 l0 x18_2).f0) 1 3 true _ A14.out).mono ?_); exact fun _ _ h_ => ⟨h_.1, h_.2.out⟩)) | (go_at_call 86; apply Calls.quiet_of; ((with_reducible refine (impl_InRange.calls ((rd_T63 l0 x18_2).f1) 0 x7_9 true _ A16.out).mono ?_); exact fun _ _ h_ => ⟨h_.1, h_.2.out⟩)) | (go_at_call 86; apply Calls.quiet_of; ((with_reducible refine (impl_InRange.calls ((rd_T63 l0 x18_2).f2) 0 127 true _ A18.out).mono ?_); exact fun _ _ h_ => ⟨h_.1, h_.2.out⟩))))
                                        have nBK1092_ := Aside0.mk (blk_drewN (w := wc) BK1092.out nq)
                                        have nHB_ := Aside0.mk (pw_below_drewN (W := wc) ⟨HB.out.os, HB.out.tape, HB.out.output, HB.out.size, HB.out.block⟩ nq)
                                        have nhx1096_0_ : (wc.drewN nq).cell? _ = _ := hx1096_0
                                        have nhx1096_1_ : (wc.drewN nq).cell? _ = _ := hx1096_1
                                        have nhx1096_2_ : (wc.drewN nq).cell? _ = _ := hx1096_2
                                        clear BK1092 HB hx1096_0 hx1096_1 hx1096_2 hq0_ hq1_ hq2_ hq3_ hq4_ hq5_
                                        have BK1092 := nBK1092_
                                        have HB := nHB_
                                        have hx1096_0 := nhx1096_0_
                                        have hx1096_1 := nhx1096_1_
                                        have hx1096_2 := nhx1096_2_
                                        clear nBK1092_ nHB_ nhx1096_0_ nhx1096_1_ nhx1096_2_
                                        generalize wc.drewN nq = w28 at BK1092 HB hx1096_0 hx1096_1 hx1096_2 ⊢
                                        try go_wp2
                                        go_roundg kj9
                                        case measure => have := HJ2.out; have := HK2.out; have := HJ9.out; omega
                                        case rel => exact ⟨(wrap64 (x18_2 + 1)), (by first | rfl | (simp; done) | (simp [*]; done)), H', ⟨by have := HJ2.out; have := HK2.out; have := HJ9.out; omega⟩, ⟨by repeat (first | (with_reducible first | exact HB.out | apply below_alloc | apply pw_below_drewN | apply below_drew1 | refine below_set ?_ GE1092.out) | exact HB.out)⟩⟩
                                    · rw [if_neg c25] at H
                                      exact absurd H (by simp)
                                  · rw [if_neg c24] at H
                                    exact absurd H (by simp)
                                · rw [if_neg c22] at H
                                  have c22b0 : decide (0 < x18_2) = false := decide_eq_false c22
                                  clear c22
                                  have H' := Aside0.mk H
                                  clear H
                                  try go_wp2
                                  have n0_ := Aside0.mk (blk_drew BK1092.out)
                                  have n1_ := Aside0.mk (below_drew1 HB.out)
                                  clear BK1092
                                  clear HB
                                  have BK1092 := n0_
                                  have HB := n1_
                                  clear n0_ n1_
                                  have hq0_ : wc.cell? ⟨gb1092, 0, none⟩ = some (.int .i64 ((rd_T63 l0 x18_2).f0)) := (blk_cell BK1092.out 0).trans rfl
                                  have hq1_ : wc.cell? ⟨gb1092, 1, none⟩ = some (.int .i64 ((rd_T63 l0 x18_2).f1)) := (blk_cell BK1092.out 1).trans rfl
                                  have hq2_ : wc.cell? ⟨gb1092, 2, none⟩ = some (.int .i64 ((rd_T63 l0 x18_2).f2)) := (blk_cell BK1092.out 2).trans rfl
                                  go_quiet ((first | (go_at_call 86; apply Calls.quiet_of; ((with_reducible refine (impl_InRange.calls ((rd_T63 l0 x18_2).f0) 1 3 true _ A14.out).mono ?_); exact fun _ _ h_ => ⟨h_.1, h_.2.out⟩)) | (go_at_call 86; apply Calls.quiet_of; ((with_reducible refine (impl_InRange.calls ((rd_T63 l0 x18_2).f1) 0 x7_9 true _ A16.out).mono ?_); exact fun _ _ h_ => ⟨h_.1, h_.2.out⟩)) | (go_at_call 86; apply Calls.quiet_of; ((with_reducible refine (impl_InRange.calls ((rd_T63 l0 x18_2).f2) 0 127 true _ A18.out).mono ?_); exact fun _ _ h_ => ⟨h_.1, h_.2.out⟩))))
                                  have nBK1092_ := Aside0.mk (blk_drewN (w := wc) BK1092.out nq)
                                  have nHB_ := Aside0.mk (pw_below_drewN (W := wc) ⟨HB.out.os, HB.out.tape, HB.out.output, HB.out.size, HB.out.block⟩ nq)
                                  clear BK1092 HB hq0_ hq1_ hq2_
                                  have BK1092 := nBK1092_
                                  have HB := nHB_
                                  clear nBK1092_ nHB_
                                  generalize wc.drewN nq = w29 at BK1092 HB ⊢
                                  try go_wp2
                                  go_roundg kj9
                                  case measure => have := HJ2.out; have := HK2.out; have := HJ9.out; omega
                                  case rel => exact ⟨(wrap64 (x18_2 + 1)), (by first | rfl | (simp; done) | (simp [*]; done)), H', ⟨by have := HJ2.out; have := HK2.out; have := HJ9.out; omega⟩, ⟨by repeat (first | (with_reducible first | exact HB.out | apply below_alloc | apply pw_below_drewN | apply below_drew1 | refine below_set ?_ GE1092.out) | exact HB.out)⟩⟩
                              · rw [if_neg c21] at H
                                have c21b0 : (((rd_T63 l0 x18_2).f2) == 0) = false := beq_eq_false_iff_ne.mpr c21
                                have c21b1 : (((rd_T63 l0 x18_2).f2) != 0) = true := bne_iff_ne.mpr c21
                                obtain rfl := Option.some.inj H
                                try go_wp2
                                have n0_ := Aside0.mk (blk_drew BK1092.out)
                                have n1_ := Aside0.mk (below_drew1 HB.out)
                                clear BK1092
                                clear HB
                                have BK1092 := n0_
                                have HB := n1_
                                clear n0_ n1_
                                have hq0_ : wc.cell? ⟨gb1092, 0, none⟩ = some (.int .i64 ((rd_T63 l0 x18_2).f0)) := (blk_cell BK1092.out 0).trans rfl
                                have hq1_ : wc.cell? ⟨gb1092, 1, none⟩ = some (.int .i64 ((rd_T63 l0 x18_2).f1)) := (blk_cell BK1092.out 1).trans rfl
                                have hq2_ : wc.cell? ⟨gb1092, 2, none⟩ = some (.int .i64 ((rd_T63 l0 x18_2).f2)) := (blk_cell BK1092.out 2).trans rfl
                                go_quiet ((first | (go_at_call 86; apply Calls.quiet_of; ((with_reducible refine (impl_InRange.calls ((rd_T63 l0 x18_2).f0) 1 3 true _ A14.out).mono ?_); exact fun _ _ h_ => ⟨h_.1, h_.2.out⟩)) | (go_at_call 86; apply Calls.quiet_of; ((with_reducible refine (impl_InRange.calls ((rd_T63 l0 x18_2).f1) 0 x7_9 true _ A16.out).mono ?_); exact fun _ _ h_ => ⟨h_.1, h_.2.out⟩)) | (go_at_call 86; apply Calls.quiet_of; ((with_reducible refine (impl_InRange.calls ((rd_T63 l0 x18_2).f2) 0 127 true _ A18.out).mono ?_); exact fun _ _ h_ => ⟨h_.1, h_.2.out⟩))))
                                have nBK1092_ := Aside0.mk (blk_drewN (w := wc) BK1092.out nq)
                                have nHB_ := Aside0.mk (pw_below_drewN (W := wc) ⟨HB.out.os, HB.out.tape, HB.out.output, HB.out.size, HB.out.block⟩ nq)
                                clear BK1092 HB hq0_ hq1_ hq2_
                                have BK1092 := nBK1092_
                                have HB := nHB_
                                clear nBK1092_ nHB_
                                generalize wc.drewN nq = w30 at BK1092 HB ⊢
                                try go_wp2
                                go_ret
                                exact ⟨by first | rfl | (simp [errW_none, errW_some] <;> rfl) | (simp [*, errW_none, errW_some] <;> rfl), by repeat (first | (with_reducible first | exact HB.out | apply below_alloc | apply pw_below_drewN | apply below_drew1 | refine below_set ?_ GE1092.out) | exact HB.out)⟩
                            · rw [if_neg c20] at H
                              have c20b0 : (((rd_T63 l0 x18_2).f0) == 2) = false := beq_eq_false_iff_ne.mpr c20
                              have c20b1 : (((rd_T63 l0 x18_2).f0) != 2) = true := bne_iff_ne.mpr c20
                              by_cases c31 : x18_2 > 0
                              · rw [if_pos c31] at H
                                have c31b0 : decide (0 < x18_2) = true := decide_eq_true c31
                                clear c31
                                obtain ⟨ji32, hji32⟩ : ∃ j_ : Int, (wrap64 (x18_2 - 1)) = j_ := ⟨_, rfl⟩
                                replace H : (if 0 ≤ (ji32) then (if (ji32) < (l0.length : Int) then (if ((rd_T63 l0 (ji32)).f1) ≤ ((rd_T63 l0 x18_2).f1) then (some false) else (impl_AreSlips.l0 kj9 l0 a1 l0 (l0.length : Int) (wrap64 (x18_2 + 1)))) else (none)) else (none)) = some r := by first | (rw [hji32] at H; exact H) | (simp only [hji32] at H ⊢; exact H)
                                (try rw [hji32] at A14)
                                (try rw [hji32] at A16)
                                (try rw [hji32] at A18)
                                have hji32w : (IntKind.i64.wrap (x18_2 - 1)) = ji32 := (i64_w _).trans hji32
                                by_cases c33 : 0 ≤ (ji32)
                                · rw [if_pos c33] at H
                                  have c33b0 : decide (0 ≤ (ji32)) = true := decide_eq_true c33
                                  clear c33
                                  by_cases c34 : (ji32) < (l0.length : Int)
                                  · rw [if_pos c34] at H
                                    have c34b0 : decide ((ji32) < (l0.length : Int)) = true := decide_eq_true c34
                                    clear c34
                                    by_cases c35 : ((rd_T63 l0 (ji32)).f1) ≤ ((rd_T63 l0 x18_2).f1)
                                    · rw [if_pos c35] at H
                                      have c35b0 : decide (((rd_T63 l0 (ji32)).f1) ≤ ((rd_T63 l0 x18_2).f1)) = true := decide_eq_true c35
                                      clear c35
                                      obtain rfl := Option.some.inj H
                                      try go_wp2
                                      have n0_ := Aside0.mk (blk_drew BK1092.out)
                                      have n1_ := Aside0.mk (below_drew1 HB.out)
                                      clear BK1092
                                      clear HB
                                      have BK1092 := n0_
                                      have HB := n1_
                                      clear n0_ n1_
                                      have p1097 : 0 ≤ ((ji32) : Int) := of_decide_eq_true (by first | (with_reducible assumption) | assumption)
                                      have q1097 : (ji32) < (l0.length : Int) := of_decide_eq_true (by first | (with_reducible assumption) | assumption)
                                      obtain ⟨ad1097, e1097, hx1097_0, hx1097_1, hx1097_2⟩ := at_T63 HR0.out (ji32) p1097 q1097
                                      have hw1097_2 := hx1097_2
                                      have hw1097_1 := hx1097_1
                                      have hw1097_0 := hx1097_0
                                      obtain rfl : ad1091 = ad1097 := (by injection e1097)
                                      replace hx1097_0 := (HB.out.cell (World.block_lt_of_cell? w _ hx1097_0)).trans hx1097_0
                                      replace hx1097_1 := (HB.out.cell (World.block_lt_of_cell? w _ hx1097_1)).trans hx1097_1
                                      replace hx1097_2 := (HB.out.cell (World.block_lt_of_cell? w _ hx1097_2)).trans hx1097_2
                                      replace p1097 := eq_true p1097
                                      replace q1097 := eq_true q1097
                                      have hq0_ : wc.cell? ⟨gb1092, 0, none⟩ = some (.int .i64 ((rd_T63 l0 x18_2).f0)) := (blk_cell BK1092.out 0).trans rfl
                                      have hq1_ : wc.cell? ⟨gb1092, 1, none⟩ = some (.int .i64 ((rd_T63 l0 x18_2).f1)) := (blk_cell BK1092.out 1).trans rfl
                                      have hq2_ : wc.cell? ⟨gb1092, 2, none⟩ = some (.int .i64 ((rd_T63 l0 x18_2).f2)) := (blk_cell BK1092.out 2).trans rfl
                                      have hq3_ : wc.cell? (ad1091.add (((ji32)).toNat * 3)) = some (.int .i64 ((rd_T63 l0 (ji32)).f0)) := ((HB.out.cell (World.block_lt_of_cell? w _ hw1097_0)).trans hw1097_0)
                                      have hq4_ : wc.cell? ⟨(ad1091.add (((ji32)).toNat * 3)).block, (ad1091.add (((ji32)).toNat * 3)).off + 1, none⟩ = some (.int .i64 ((rd_T63 l0 (ji32)).f1)) := ((HB.out.cell (World.block_lt_of_cell? w _ hw1097_1)).trans hw1097_1)
                                      have hq5_ : wc.cell? ⟨(ad1091.add (((ji32)).toNat * 3)).block, (ad1091.add (((ji32)).toNat * 3)).off + 2, none⟩ = some (.int .i64 ((rd_T63 l0 (ji32)).f2)) := ((HB.out.cell (World.block_lt_of_cell? w _ hw1097_2)).trans hw1097_2)
                                      go_quiet ((first | (go_at_call 86; apply Calls.quiet_of; ((with_reducible refine (impl_InRange.calls ((rd_T63 l0 x18_2).f0) 1 3 true _ A14.out).mono ?_); exact fun _ _ h_ => ⟨h_.1, h_.2.out⟩)) | (go_at_call 86; apply Calls.quiet_of; ((with_reducible refine (impl_InRange.calls ((rd_T63 l0 x18_2).f1) 0 x7_9 true _ A16.out).mono ?_); exact fun _ _ h_ => ⟨h_.1, h_.2.out⟩)) | (go_at_call 86; apply Calls.quiet_of; ((with_reducible refine (impl_InRange.calls ((rd_T63 l0 x18_2).f2) 0 127 true _ A18.out).mono ?_); exact fun _ _ h_ => ⟨h_.1, h_.2.out⟩))))
                                      have nBK1092_ := Aside0.mk (blk_drewN (w := wc) BK1092.out nq)
                                      have nHB_ := Aside0.mk (pw_below_drewN (W := wc) ⟨HB.out.os, HB.out.tape, HB.out.output, HB.out.size, HB.out.block⟩ nq)
                                      have nhx1097_0_ : (wc.drewN nq).cell? _ = _ := hx1097_0
                                      have nhx1097_1_ : (wc.drewN nq).cell? _ = _ := hx1097_1
                                      have nhx1097_2_ : (wc.drewN nq).cell? _ = _ := hx1097_2
                                      clear BK1092 HB hx1097_0 hx1097_1 hx1097_2 hq0_ hq1_ hq2_ hq3_ hq4_ hq5_
                                      have BK1092 := nBK1092_
                                      have HB := nHB_
                                      have hx1097_0 := nhx1097_0_
                                      have hx1097_1 := nhx1097_1_
                                      have hx1097_2 := nhx1097_2_
                                      clear nBK1092_ nHB_ nhx1097_0_ nhx1097_1_ nhx1097_2_
                                      generalize wc.drewN nq = w36 at BK1092 HB hx1097_0 hx1097_1 hx1097_2 ⊢
                                      try go_wp2
                                      go_ret
                                      exact ⟨by first | rfl | (simp [errW_none, errW_some] <;> rfl) | (simp only [← hji32]; first | rfl | (simp [errW_none, errW_some] <;> rfl)) | (simp [*, errW_none, errW_some] <;> rfl), by repeat (first | (with_reducible first | exact HB.out | apply below_alloc | apply pw_below_drewN | apply below_drew1 | refine below_set ?_ GE1092.out) | exact HB.out)⟩
                                    · rw [if_neg c35] at H
                                      have c35b0 : decide (((rd_T63 l0 (ji32)).f1) ≤ ((rd_T63 l0 x18_2).f1)) = false := decide_eq_false c35
                                      clear c35
                                      have H' := Aside0.mk H
                                      clear H
                                      try go_wp2
                                      have n0_ := Aside0.mk (blk_drew BK1092.out)
                                      have n1_ := Aside0.mk (below_drew1 HB.out)
                                      clear BK1092
                                      clear HB
                                      have BK1092 := n0_
                                      have HB := n1_
                                      clear n0_ n1_
                                      have p1097 : 0 ≤ ((ji32) : Int) := of_decide_eq_true (by first | (with_reducible assumption) | assumption)
                                      have q1097 : (ji32) < (l0.length : Int) := of_decide_eq_true (by first | (with_reducible assumption) | assumption)
                                      obtain ⟨ad1097, e1097, hx1097_0, hx1097_1, hx1097_2⟩ := at_T63 HR0.out (ji32) p1097 q1097
                                      have hw1097_2 := hx1097_2
                                      have hw1097_1 := hx1097_1
                                      have hw1097_0 := hx1097_0
                                      obtain rfl : ad1091 = ad1097 := (by injection e1097)
                                      replace hx1097_0 := (HB.out.cell (World.block_lt_of_cell? w _ hx1097_0)).trans hx1097_0
                                      replace hx1097_1 := (HB.out.cell (World.block_lt_of_cell? w _ hx1097_1)).trans hx1097_1
                                      replace hx1097_2 := (HB.out.cell (World.block_lt_of_cell? w _ hx1097_2)).trans hx1097_2
                                      replace p1097 := eq_true p1097
                                      replace q1097 := eq_true q1097
                                      have hq0_ : wc.cell? ⟨gb1092, 0, none⟩ = some (.int .i64 ((rd_T63 l0 x18_2).f0)) := (blk_cell BK1092.out 0).trans rfl
                                      have hq1_ : wc.cell? ⟨gb1092, 1, none⟩ = some (.int .i64 ((rd_T63 l0 x18_2).f1)) := (blk_cell BK1092.out 1).trans rfl
                                      have hq2_ : wc.cell? ⟨gb1092, 2, none⟩ = some (.int .i64 ((rd_T63 l0 x18_2).f2)) := (blk_cell BK1092.out 2).trans rfl
                                      have hq3_ : wc.cell? (ad1091.add (((ji32)).toNat * 3)) = some (.int .i64 ((rd_T63 l0 (ji32)).f0)) := ((HB.out.cell (World.block_lt_of_cell? w _ hw1097_0)).trans hw1097_0)
                                      have hq4_ : wc.cell? ⟨(ad1091.add (((ji32)).toNat * 3)).block, (ad1091.add (((ji32)).toNat * 3)).off + 1, none⟩ = some (.int .i64 ((rd_T63 l0 (ji32)).f1)) := ((HB.out.cell (World.block_lt_of_cell? w _ hw1097_1)).trans hw1097_1)
                                      have hq5_ : wc.cell? ⟨(ad1091.add (((ji32)).toNat * 3)).block, (ad1091.add (((ji32)).toNat * 3)).off + 2, none⟩ = some (.int .i64 ((rd_T63 l0 (ji32)).f2)) := ((HB.out.cell (World.block_lt_of_cell? w _ hw1097_2)).trans hw1097_2)
                                      go_quiet ((first | (go_at_call 86; apply Calls.quiet_of; ((with_reducible refine (impl_InRange.calls ((rd_T63 l0 x18_2).f0) 1 3 true _ A14.out).mono ?_); exact fun _ _ h_ => ⟨h_.1, h_.2.out⟩)) | (go_at_call 86; apply Calls.quiet_of; ((with_reducible refine (impl_InRange.calls ((rd_T63 l0 x18_2).f1) 0 x7_9 true _ A16.out).mono ?_); exact fun _ _ h_ => ⟨h_.1, h_.2.out⟩)) | (go_at_call 86; apply Calls.quiet_of; ((with_reducible refine (impl_InRange.calls ((rd_T63 l0 x18_2).f2) 0 127 true _ A18.out).mono ?_); exact fun _ _ h_ => ⟨h_.1, h_.2.out⟩))))
                                      have nBK1092_ := Aside0.mk (blk_drewN (w := wc) BK1092.out nq)
                                      have nHB_ := Aside0.mk (pw_below_drewN (W := wc) ⟨HB.out.os, HB.out.tape, HB.out.output, HB.out.size, HB.out.block⟩ nq)
                                      have nhx1097_0_ : (wc.drewN nq).cell? _ = _ := hx1097_0
                                      have nhx1097_1_ : (wc.drewN nq).cell? _ = _ := hx1097_1
                                      have nhx1097_2_ : (wc.drewN nq).cell? _ = _ := hx1097_2
                                      clear BK1092 HB hx1097_0 hx1097_1 hx1097_2 hq0_ hq1_ hq2_ hq3_ hq4_ hq5_
                                      have BK1092 := nBK1092_
                                      have HB := nHB_
                                      have hx1097_0 := nhx1097_0_
                                      have hx1097_1 := nhx1097_1_
                                      have hx1097_2 := nhx1097_2_
                                      clear nBK1092_ nHB_ nhx1097_0_ nhx1097_1_ nhx1097_2_
                                      generalize wc.drewN nq = w37 at BK1092 HB hx1097_0 hx1097_1 hx1097_2 ⊢
                                      try go_wp2
                                      go_roundg kj9
                                      case measure => have := HJ2.out; have := HK2.out; have := HJ9.out; omega
                                      case rel => exact ⟨(wrap64 (x18_2 + 1)), (by first | rfl | (simp; done) | (simp [*]; done)), H', ⟨by have := HJ2.out; have := HK2.out; have := HJ9.out; omega⟩, ⟨by repeat (first | (with_reducible first | exact HB.out | apply below_alloc | apply pw_below_drewN | apply below_drew1 | refine below_set ?_ GE1092.out) | exact HB.out)⟩⟩
                                  · rw [if_neg c34] at H
                                    exact absurd H (by simp)
                                · rw [if_neg c33] at H
                                  exact absurd H (by simp)
                              · rw [if_neg c31] at H
                                have c31b0 : decide (0 < x18_2) = false := decide_eq_false c31
                                clear c31
                                have H' := Aside0.mk H
                                clear H
                                try go_wp2
                                have n0_ := Aside0.mk (blk_drew BK1092.out)
                                have n1_ := Aside0.mk (below_drew1 HB.out)
                                clear BK1092
                                clear HB
                                have BK1092 := n0_
                                have HB := n1_
                                clear n0_ n1_
                                have hq0_ : wc.cell? ⟨gb1092, 0, none⟩ = some (.int .i64 ((rd_T63 l0 x18_2).f0)) := (blk_cell BK1092.out 0).trans rfl
                                have hq1_ : wc.cell? ⟨gb1092, 1, none⟩ = some (.int .i64 ((rd_T63 l0 x18_2).f1)) := (blk_cell BK1092.out 1).trans rfl
                                have hq2_ : wc.cell? ⟨gb1092, 2, none⟩ = some (.int .i64 ((rd_T63 l0 x18_2).f2)) := (blk_cell BK1092.out 2).trans rfl
                                go_quiet ((first | (go_at_call 86; apply Calls.quiet_of; ((with_reducible refine (impl_InRange.calls ((rd_T63 l0 x18_2).f0) 1 3 true _ A14.out).mono ?_); exact fun _ _ h_ => ⟨h_.1, h_.2.out⟩)) | (go_at_call 86; apply Calls.quiet_of; ((with_reducible refine (impl_InRange.calls ((rd_T63 l0 x18_2).f1) 0 x7_9 true _ A16.out).mono ?_); exact fun _ _ h_ => ⟨h_.1, h_.2.out⟩)) | (go_at_call 86; apply Calls.quiet_of; ((with_reducible refine (impl_InRange.calls ((rd_T63 l0 x18_2).f2) 0 127 true _ A18.out).mono ?_); exact fun _ _ h_ => ⟨h_.1, h_.2.out⟩))))
                                have nBK1092_ := Aside0.mk (blk_drewN (w := wc) BK1092.out nq)
                                have nHB_ := Aside0.mk (pw_below_drewN (W := wc) ⟨HB.out.os, HB.out.tape, HB.out.output, HB.out.size, HB.out.block⟩ nq)
                                clear BK1092 HB hq0_ hq1_ hq2_
                                have BK1092 := nBK1092_
                                have HB := nHB_
                                clear nBK1092_ nHB_
                                generalize wc.drewN nq = w38 at BK1092 HB ⊢
                                try go_wp2
                                go_roundg kj9
                                case measure => have := HJ2.out; have := HK2.out; have := HJ9.out; omega
                                case rel => exact ⟨(wrap64 (x18_2 + 1)), (by first | rfl | (simp; done) | (simp [*]; done)), H', ⟨by have := HJ2.out; have := HK2.out; have := HJ9.out; omega⟩, ⟨by repeat (first | (with_reducible first | exact HB.out | apply below_alloc | apply pw_below_drewN | apply below_drew1 | refine below_set ?_ GE1092.out) | exact HB.out)⟩⟩
                          · replace c19 := Bool.eq_false_iff.mpr c19
                            subst c19
                            have H1 : (some false) = some r := by rw [if_neg (show ¬ (false = true) by decide)] at H; exact H
                            clear H
                            have H := H1
                            clear H1
                            obtain rfl := Option.some.inj H
                            try go_wp2
                            have n0_ := Aside0.mk (blk_drew BK1092.out)
                            have n1_ := Aside0.mk (below_drew1 HB.out)
                            clear BK1092
                            clear HB
                            have BK1092 := n0_
                            have HB := n1_
                            clear n0_ n1_
                            have hq0_ : wc.cell? ⟨gb1092, 0, none⟩ = some (.int .i64 ((rd_T63 l0 x18_2).f0)) := (blk_cell BK1092.out 0).trans rfl
                            have hq1_ : wc.cell? ⟨gb1092, 1, none⟩ = some (.int .i64 ((rd_T63 l0 x18_2).f1)) := (blk_cell BK1092.out 1).trans rfl
                            have hq2_ : wc.cell? ⟨gb1092, 2, none⟩ = some (.int .i64 ((rd_T63 l0 x18_2).f2)) := (blk_cell BK1092.out 2).trans rfl
                            go_quiet ((first | (go_at_call 86; apply Calls.quiet_of; ((with_reducible refine (impl_InRange.calls ((rd_T63 l0 x18_2).f0) 1 3 true _ A14.out).mono ?_); exact fun _ _ h_ => ⟨h_.1, h_.2.out⟩)) | (go_at_call 86; apply Calls.quiet_of; ((with_reducible refine (impl_InRange.calls ((rd_T63 l0 x18_2).f1) 0 x7_9 true _ A16.out).mono ?_); exact fun _ _ h_ => ⟨h_.1, h_.2.out⟩)) | (go_at_call 86; apply Calls.quiet_of; ((with_reducible refine (impl_InRange.calls ((rd_T63 l0 x18_2).f2) 0 127 false _ A18.out).mono ?_); exact fun _ _ h_ => ⟨h_.1, h_.2.out⟩))))
                            have nBK1092_ := Aside0.mk (blk_drewN (w := wc) BK1092.out nq)
                            have nHB_ := Aside0.mk (pw_below_drewN (W := wc) ⟨HB.out.os, HB.out.tape, HB.out.output, HB.out.size, HB.out.block⟩ nq)
                            clear BK1092 HB hq0_ hq1_ hq2_
                            have BK1092 := nBK1092_
                            have HB := nHB_
                            clear nBK1092_ nHB_
                            generalize wc.drewN nq = w39 at BK1092 HB ⊢
                            try go_wp2
                            go_ret
                            exact ⟨by first | rfl | (simp [errW_none, errW_some] <;> rfl) | (simp [*, errW_none, errW_some] <;> rfl), by repeat (first | (with_reducible first | exact HB.out | apply below_alloc | apply pw_below_drewN | apply below_drew1 | refine below_set ?_ GE1092.out) | exact HB.out)⟩
                        · replace c17 := Bool.eq_false_iff.mpr c17
                          subst c17
                          have H1 : (some false) = some r := by rw [if_neg (show ¬ (false = true) by decide)] at H; exact H
                          clear H
                          have H := H1
                          clear H1
                          obtain rfl := Option.some.inj H
                          try go_wp2
                          have n0_ := Aside0.mk (blk_drew BK1092.out)
                          have n1_ := Aside0.mk (below_drew1 HB.out)
                          clear BK1092
                          clear HB
                          have BK1092 := n0_
                          have HB := n1_
                          clear n0_ n1_
                          have hq0_ : wc.cell? ⟨gb1092, 0, none⟩ = some (.int .i64 ((rd_T63 l0 x18_2).f0)) := (blk_cell BK1092.out 0).trans rfl
                          have hq1_ : wc.cell? ⟨gb1092, 1, none⟩ = some (.int .i64 ((rd_T63 l0 x18_2).f1)) := (blk_cell BK1092.out 1).trans rfl
                          have hq2_ : wc.cell? ⟨gb1092, 2, none⟩ = some (.int .i64 ((rd_T63 l0 x18_2).f2)) := (blk_cell BK1092.out 2).trans rfl
                          go_quiet ((first | (go_at_call 86; apply Calls.quiet_of; ((with_reducible refine (impl_InRange.calls ((rd_T63 l0 x18_2).f0) 1 3 true _ A14.out).mono ?_); exact fun _ _ h_ => ⟨h_.1, h_.2.out⟩)) | (go_at_call 86; apply Calls.quiet_of; ((with_reducible refine (impl_InRange.calls ((rd_T63 l0 x18_2).f1) 0 x7_9 false _ A16.out).mono ?_); exact fun _ _ h_ => ⟨h_.1, h_.2.out⟩))))
                          have nBK1092_ := Aside0.mk (blk_drewN (w := wc) BK1092.out nq)
                          have nHB_ := Aside0.mk (pw_below_drewN (W := wc) ⟨HB.out.os, HB.out.tape, HB.out.output, HB.out.size, HB.out.block⟩ nq)
                          clear BK1092 HB hq0_ hq1_ hq2_
                          have BK1092 := nBK1092_
                          have HB := nHB_
                          clear nBK1092_ nHB_
                          generalize wc.drewN nq = w40 at BK1092 HB ⊢
                          try go_wp2
                          go_ret
                          exact ⟨by first | rfl | (simp [errW_none, errW_some] <;> rfl) | (simp [*, errW_none, errW_some] <;> rfl), by repeat (first | (with_reducible first | exact HB.out | apply below_alloc | apply pw_below_drewN | apply below_drew1 | refine below_set ?_ GE1092.out) | exact HB.out)⟩
                      · replace c15 := Bool.eq_false_iff.mpr c15
                        subst c15
                        have H1 : (some false) = some r := by rw [if_neg (show ¬ (false = true) by decide)] at H; exact H
                        clear H
                        have H := H1
                        clear H1
                        obtain rfl := Option.some.inj H
                        try go_wp2
                        have n0_ := Aside0.mk (blk_drew BK1092.out)
                        have n1_ := Aside0.mk (below_drew1 HB.out)
                        clear BK1092
                        clear HB
                        have BK1092 := n0_
                        have HB := n1_
                        clear n0_ n1_
                        have hq0_ : wc.cell? ⟨gb1092, 0, none⟩ = some (.int .i64 ((rd_T63 l0 x18_2).f0)) := (blk_cell BK1092.out 0).trans rfl
                        have hq1_ : wc.cell? ⟨gb1092, 1, none⟩ = some (.int .i64 ((rd_T63 l0 x18_2).f1)) := (blk_cell BK1092.out 1).trans rfl
                        have hq2_ : wc.cell? ⟨gb1092, 2, none⟩ = some (.int .i64 ((rd_T63 l0 x18_2).f2)) := (blk_cell BK1092.out 2).trans rfl
                        go_quiet ((first | (go_at_call 86; apply Calls.quiet_of; ((with_reducible refine (impl_InRange.calls ((rd_T63 l0 x18_2).f0) 1 3 false _ A14.out).mono ?_); exact fun _ _ h_ => ⟨h_.1, h_.2.out⟩))))
                        have nBK1092_ := Aside0.mk (blk_drewN (w := wc) BK1092.out nq)
                        have nHB_ := Aside0.mk (pw_below_drewN (W := wc) ⟨HB.out.os, HB.out.tape, HB.out.output, HB.out.size, HB.out.block⟩ nq)
                        clear BK1092 HB hq0_ hq1_ hq2_
                        have BK1092 := nBK1092_
                        have HB := nHB_
                        clear nBK1092_ nHB_
                        generalize wc.drewN nq = w41 at BK1092 HB ⊢
                        try go_wp2
                        go_ret
                        exact ⟨by first | rfl | (simp [errW_none, errW_some] <;> rfl) | (simp [*, errW_none, errW_some] <;> rfl), by repeat (first | (with_reducible first | exact HB.out | apply below_alloc | apply pw_below_drewN | apply below_drew1 | refine below_set ?_ GE1092.out) | exact HB.out)⟩
                · rw [if_neg c9] at H
                  exact absurd H (by simp)
              · rw [if_neg c8] at H
                exact absurd H (by simp)
            · rw [if_neg c7] at H
              have c7b0 : decide (x18_2 < (l0.length : Int)) = false := decide_eq_false c7
              clear c7
              obtain rfl := Option.some.inj H
              go_wp2
              go_ret
              exact ⟨by first | rfl | (simp [errW_none, errW_some] <;> rfl) | (simp [*, errW_none, errW_some] <;> rfl), by repeat (first | (with_reducible first | exact HB.out | apply below_alloc | apply pw_below_drewN | apply below_drew1) | exact HB.out)⟩

end Go.Proofs.Ytbhlmeghbfmgiaa.F
