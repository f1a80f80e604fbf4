/- FnScores, part 4 of 5: texts of the claim, joined into one file. -/
import Derived.Test.YtbhlmeghbfmgiaaZFnScores3
import Derived.Says
import Derived.Shelf.Abstract
import Derived.Lib.SliceRun
import Derived.Shelf.RegionOpenPlain
import Derived.Deep.RegionLaw
import Derived.Sort.WalkB12
import Derived.Lib.AppendZerosOnto
import Derived.Lib.AppendZeros
import Derived.Lib.JoinLaws
import Derived.Lib.Overlaps
import Derived.Laws.Externs
import Derived.Laws.NewBlocks
import Derived.Shelf.Spec.SlicesInsert
import Derived.Shelf.SlSortCmp.NoneTotal
import Derived.Shelf.Sort.Plain
import Derived.Shelf.Slices.CompactI
import Derived.Shelf.Slices.Delete
import Derived.Shelf.Spec.SlicesInsertGrow
import Derived.Shelf.Slices.In.SortNone
import Derived.Test.YtbhlmeghbfmgiaaProg
import Derived.Lib.OwnBridge
import Derived.Sort.OwnSortedInts

namespace Go.Proofs.Ytbhlmeghbfmgiaa.F
open Go.RowKit Go.Proofs.YtbhlmeghbfmgiaaW.PrintWords Go.Proofs.YtbhlmeghbfmgiaaW.PrintLast Go.Proofs.YtbhlmeghbfmgiaaW.PrintMore
attribute [local go_sem] max2_int min2_int max_two min_two max_three min_three max_four min_four
set_option linter.unusedVariables false
set_option linter.unusedSimpArgs false
def impl_IsScore.l0 : Nat → List (S26) → List (S26) → Int → Int → Option (Bool)
 | 0, _, _, _, _ => none
 | k + 1, x0, x5, x6, x7 => if x7 < x6 then (if 0 ≤ x7 then (if x7 < (x5.length : Int) then ((impl_InRange.f ((rd_T26 x5 x7).f0) 0 2000).bind fun t312 => (if t312 = true then ((impl_InRange.f ((rd_T26 x5 x7).f1) 1 96).bind fun t313 => (if t313 = true then ((impl_InRange.f ((rd_T26 x5 x7).f2) 21 108).bind fun t314 => (if t314 = true then ((impl_InRange.f ((rd_T26 x5 x7).f3) 1 4).bind fun t315 => (if t315 = true then (if x7 > 0 then (if 0 ≤ (wrap64 (x7 - 1)) then (if (wrap64 (x7 - 1)) < (x0.length : Int) then ((impl_eventOrder.f k ((rd_T26 x0 (wrap64 (x7 - 1))).f0) ((rd_T26 x0 (wrap64 (x7 - 1))).f1) ((rd_T26 x0 (wrap64 (x7 - 1))).f2) ((rd_T26 x0 (wrap64 (x7 - 1))).f3) ((rd_T26 x5 x7).f0) ((rd_T26 x5 x7).f1) ((rd_T26 x5 x7).f2) ((rd_T26 x5 x7).f3)).bind fun t317 => (if t317 ≥ 0 then (some false) else (impl_IsScore.l0 k x0 x5 x6 (wrap64 (x7 + 1))))) else (none)) else (none)) else (impl_IsScore.l0 k x0 x5 x6 (wrap64 (x7 + 1)))) else (some false))) else (some false))) else (some false))) else (some false))) else (none)) else (none)) else (some (decide ((x0.length : Int) ≤ 40)))
def impl_IsScore.f (k : Nat) (l0 : List (S26)) : Option (Bool) := impl_IsScore.l0 k l0 l0 (l0.length : Int) 0
def impl_IsScore.T4 : Bool × List (List Nat × List Nat) := (true, [([], []), ([0], [0]), ([1], [1]), ([2], [2]), ([3, 2], [3]), ([4], [4]), ([5, 4], [4, 5]), ([6, 4, 4], [4, 6]), ([7, 4], [4, 7]), ([4, 8], [4, 8]), ([9, 7], [9]), ([10], [10]), ([11, 10], [10, 11]), ([12, 10, 10], [10, 12]), ([13, 10], [10, 13]), ([10, 14], [10, 14]), ([15, 13], [15]), ([16], [16]), ([17, 16], [16, 17]), ([18, 16, 16], [16, 18]), ([19, 16], [16, 19]), ([16, 20], [16, 20]), ([21, 19], [21]), ([22], [22]), ([23, 22], [22, 23]), ([24, 22, 22], [22, 24]), ([25], [25]), ([25], [25]), ([27, 25], [25, 27]), ([26, 28, 25], [25, 26, 28]), ([29, 25], [25, 29]), ([25], [25]), ([30, 31, 25, 25], [25, 30, 31]), ([32, 25], [25, 32]), ([25, 33, 22], [22, 25, 33]), ([22, 34], [22, 34])])
def impl_IsScore.B4 : List Nat := [0, 1, 3, 7, 15, 31, 63, 127, 255, 511, 1023, 2047, 4095, 8191, 16383, 32767, 65535, 131071, 262143, 524287, 1048575, 2097151, 4194303, 8388607, 16777215, 33554431, 67108863, 67108863, 201326591, 536870911, 1073741823, 67108863, 4294967295, 8589934591, 17179869183, 34359738367]
theorem impl_IsScore.tab4 : rtab .any (opsOf Try.f14 4) = impl_IsScore.T4 := by kernel_rfl
theorem impl_IsScore.bits4 : waitsOk impl_IsScore.T4.2 impl_IsScore.B4 = true := by kernel_rfl
set_option maxHeartbeats 8000000 in
set_option maxRecDepth 100000 in
theorem impl_IsScore.calls (k : Nat) (A0 : Option Addr) (c0 : Nat) (l0 : List (S26)) (r : Bool) (w : World) (hr0 : Kd.C k26 w A0 l0.length l0) (hc0 : l0.length ≤ c0) (h : impl_IsScore.f k l0 = some r) :
  Calls Try.prog 14 #[.slice A0 l0.length c0] w fun e w' => e = .returned (.bool r) ∧ Below w.heap.size w w' := by
 have hu26 := Try.underlying26
 have HR0 := Aside0.mk hr0
 have HC0 := Aside0.mk hc0
 clear hr0 hc0
 have HB := Aside0.mk (Below.refl w.heap.size w)
 have H : (impl_IsScore.l0 k l0 l0 (l0.length : Int) 0) = some r := h
 clear h
 have H' := Aside0.mk H
 clear H
 go_enter Try.func14, Try.ntmps14
 go_wp2
 go_loopg [7] k (fun kq v7 w' => ∃ (x7_1 : Int), v7 = .int .i64 x7_1 ∧ Aside0 (impl_IsScore.l0 kq l0 l0 (l0.length : Int) x7_1 = some r) ∧ Aside0 (kq ≤ k) ∧ Aside0 (Below w.heap.size w w'))
 case atStart => exact ⟨(0), (by first | rfl | (simp; done) | (simp [*]; done)), H', ⟨Nat.le_refl _⟩, ⟨by repeat (first | (with_reducible first | exact HB.out | apply below_alloc | apply pw_below_drewN | apply below_drew1) | exact HB.out)⟩⟩
 case round =>
  clear H'
  try clear c1
  obtain ⟨x7_1, rfl, HA, HK1, HB⟩ := hrel
  cases gk with
  | zero => exact absurd HA.out (by simp [impl_IsScore.l0])
  | succ k1 =>
   have H := HA.out
   clear HA
   simp only [impl_IsScore.l0] at H
   by_cases c2 : x7_1 < (l0.length : Int)
   ·
    rw [if_pos c2] at H
    have c2b0 : decide (x7_1 < (l0.length : Int)) = true := decide_eq_true c2
    clear c2
    by_cases c3 : 0 ≤ x7_1
    ·
     rw [if_pos c3] at H
     have c3b0 : decide (0 ≤ x7_1) = true := decide_eq_true c3
     clear c3
     by_cases c4 : x7_1 < (l0.length : Int)
     ·
      rw [if_pos c4] at H
      have c4b0 : decide (x7_1 < (l0.length : Int)) = true := decide_eq_true c4
      clear c4
      replace H := Option.bind_eq_some_iff.mp H
      obtain ⟨t312, A50, H⟩ := H
      try dsimp only at H
      have A5 := Aside0.mk A50
      clear A50
      by_cases c6 : t312 = true
      ·
       subst c6
       rw [if_pos rfl] at H
       replace H := Option.bind_eq_some_iff.mp H
       obtain ⟨t313, A70, H⟩ := H
       try dsimp only at H
       have A7 := Aside0.mk A70
       clear A70
       by_cases c8 : t313 = true
       ·
        subst c8
        rw [if_pos rfl] at H
        replace H := Option.bind_eq_some_iff.mp H
        obtain ⟨t314, A90, H⟩ := H
        try dsimp only at H
        have A9 := Aside0.mk A90
        clear A90
        by_cases c10 : t314 = true
        ·
         subst c10
         rw [if_pos rfl] at H
         replace H := Option.bind_eq_some_iff.mp H
         obtain ⟨t315, A110, H⟩ := H
         try dsimp only at H
         have A11 := Aside0.mk A110
         clear A110
         by_cases c12 : t315 = true
         ·
          subst c12
          rw [if_pos rfl] at H
          by_cases c13 : x7_1 > 0
          ·
           rw [if_pos c13] at H
           have c13b0 : decide (0 < x7_1) = true := decide_eq_true c13
           clear c13
           obtain ⟨ji14, hji14⟩ : ∃ j_ : Int, (wrap64 (x7_1 - 1)) = j_ := ⟨_, rfl⟩
           replace H : (if 0 ≤ (ji14) then (if (ji14) < (l0.length : Int) then ((impl_eventOrder.f k1 ((rd_T26 l0 (ji14)).f0) ((rd_T26 l0 (ji14)).f1) ((rd_T26 l0 (ji14)).f2) ((rd_T26 l0 (ji14)).f3) ((rd_T26 l0 x7_1).f0) ((rd_T26 l0 x7_1).f1) ((rd_T26 l0 x7_1).f2) ((rd_T26 l0 x7_1).f3)).bind fun t317 => (if t317 ≥ 0 then (some false) else (impl_IsScore.l0 k1 l0 l0 (l0.length : Int) (wrap64 (x7_1 + 1))))) else (none)) else (none)) = some r := by first | (rw [hji14] at H; exact H) | (simp only [hji14] at H ⊢; exact H)
           (try rw [hji14] at A5)
           (try rw [hji14] at A7)
           (try rw [hji14] at A9)
           (try rw [hji14] at A11)
           have hji14w : (IntKind.i64.wrap (x7_1 - 1)) = ji14 := (i64_w _).trans hji14
           by_cases c15 : 0 ≤ (ji14)
           ·
            rw [if_pos c15] at H
            have c15b0 : decide (0 ≤ (ji14)) = true := decide_eq_true c15
            clear c15
            by_cases c16 : (ji14) < (l0.length : Int)
            ·
             rw [if_pos c16] at H
             have c16b0 : decide ((ji14) < (l0.length : Int)) = true := decide_eq_true c16
             clear c16
             replace H := Option.bind_eq_some_iff.mp H
             obtain ⟨t317, A170, H⟩ := H
             try dsimp only at H
             have A17 := Aside0.mk A170
             clear A170
             by_cases c18 : t317 ≥ 0
             ·
              rw [if_pos c18] at H
              have c18b0 : decide (0 ≤ t317) = true := decide_eq_true c18
              clear c18
              obtain rfl := Option.some.inj H
              have p310 : 0 ≤ (x7_1 : Int) := of_decide_eq_true (by first | (with_reducible assumption) | assumption)
              have q310 : x7_1 < (l0.length : Int) := of_decide_eq_true (by first | (with_reducible assumption) | assumption)
              obtain ⟨ad310, e310, hx310_0, hx310_1, hx310_2, hx310_3⟩ := at_T26 HR0.out x7_1 p310 q310
              cases e310
              replace hx310_0 := (HB.out.cell (World.block_lt_of_cell? w _ hx310_0)).trans hx310_0
              replace hx310_1 := (HB.out.cell (World.block_lt_of_cell? w _ hx310_1)).trans hx310_1
              replace hx310_2 := (HB.out.cell (World.block_lt_of_cell? w _ hx310_2)).trans hx310_2
              replace hx310_3 := (HB.out.cell (World.block_lt_of_cell? w _ hx310_3)).trans hx310_3
              replace p310 := eq_true p310
              replace q310 := eq_true q310
              try go_wp2_with (first | ((with_reducible refine gate_dst (N := 4) rfl ?_); refine box_event ?hg (N := 4) ?hd (cs := #[.int .i64 0, .int .i64 0, .int .i64 0, .int .i64 0]) (t := 26) ?hr ?_; (case hd => rfl); (case hg => rfl); (case hr => first | (go_simp; done) | (go_simp; rfl)); intro gb311 hg w19 hbox hb; have n0_ := Aside0.mk (below_step (by repeat (first | (with_reducible first | exact HB.out | apply below_alloc | apply pw_below_drewN | apply below_drew1) | exact HB.out)) hb); have n1_ := Aside0.mk (hbox); have n2_ := Aside0.mk ((by rw [hg]; exact (below_size (by repeat (first | (with_reducible first | exact HB.out | apply below_alloc | apply pw_below_drewN | apply below_drew1) | exact HB.out))) : w.heap.size ≤ gb311)); have n3_ := Aside0.mk ((by rw [hg]; exact (below_size (by repeat (first | (with_reducible first | exact HB.out | apply below_alloc | apply pw_below_drewN | apply below_drew1) | exact HB.out))) : w.heap.size ≤ gb311)); clear HB; have HB := n0_; have BK311 := n1_; have GW311 := n2_; have GE311 := n3_; clear n0_ n1_ n2_ n3_; clear hb hbox hg; have hcz20_0 : w19.cell? ⟨gb311, 0, none⟩ = some (.int .i64 0) := (blk_cell BK311.out 0).trans rfl; have hcz20_1 : w19.cell? ⟨gb311, 1, none⟩ = some (.int .i64 0) := (blk_cell BK311.out 1).trans rfl; have hcz20_2 : w19.cell? ⟨gb311, 2, none⟩ = some (.int .i64 0) := (blk_cell BK311.out 2).trans rfl; have hcz20_3 : w19.cell? ⟨gb311, 3, none⟩ = some (.int .i64 0) := (blk_cell BK311.out 3).trans rfl; have hfz20_0 := blk_frozen BK311.out 0; have hfz20_1 := blk_frozen BK311.out 1; have hfz20_2 := blk_frozen BK311.out 2; have hfz20_3 := blk_frozen BK311.out 3))
              have n0_ : Aside0 (((((w19.setCell ⟨gb311, 0, none⟩ (.int .i64 ((rd_T26 l0 x7_1).f0))).setCell ⟨gb311, 1, none⟩ (.int .i64 ((rd_T26 l0 x7_1).f1))).setCell ⟨gb311, 2, none⟩ (.int .i64 ((rd_T26 l0 x7_1).f2))).setCell ⟨gb311, 3, none⟩ (.int .i64 ((rd_T26 l0 x7_1).f3))).heap[gb311]? = some (.cells #[.int .i64 ((rd_T26 l0 x7_1).f0), .int .i64 ((rd_T26 l0 x7_1).f1), .int .i64 ((rd_T26 l0 x7_1).f2), .int .i64 ((rd_T26 l0 x7_1).f3)] 26 (0, 0))) := ⟨by (with_reducible repeat (first | refine blk_drewN ?_ _ | refine blk_drew ?_ | refine blk_alloc ?_ _)); refine blk_put (cs := #[.int .i64 ((rd_T26 l0 x7_1).f0), .int .i64 ((rd_T26 l0 x7_1).f1), .int .i64 ((rd_T26 l0 x7_1).f2), .int .i64 0]) ?_ 3 _ rfl; (with_reducible repeat (first | refine blk_drewN ?_ _ | refine blk_drew ?_ | refine blk_alloc ?_ _)); refine blk_put (cs := #[.int .i64 ((rd_T26 l0 x7_1).f0), .int .i64 ((rd_T26 l0 x7_1).f1), .int .i64 0, .int .i64 0]) ?_ 2 _ rfl; (with_reducible repeat (first | refine blk_drewN ?_ _ | refine blk_drew ?_ | refine blk_alloc ?_ _)); refine blk_put (cs := #[.int .i64 ((rd_T26 l0 x7_1).f0), .int .i64 0, .int .i64 0, .int .i64 0]) ?_ 1 _ rfl; (with_reducible repeat (first | refine blk_drewN ?_ _ | refine blk_drew ?_ | refine blk_alloc ?_ _)); refine blk_put (cs := #[.int .i64 0, .int .i64 0, .int .i64 0, .int .i64 0]) ?_ 0 _ rfl; (with_reducible repeat (first | refine blk_drewN ?_ _ | refine blk_drew ?_ | refine blk_alloc ?_ _)); exact BK311.out⟩
              have n1_ : Aside0 (Below w.heap.size w ((((w19.setCell ⟨gb311, 0, none⟩ (.int .i64 ((rd_T26 l0 x7_1).f0))).setCell ⟨gb311, 1, none⟩ (.int .i64 ((rd_T26 l0 x7_1).f1))).setCell ⟨gb311, 2, none⟩ (.int .i64 ((rd_T26 l0 x7_1).f2))).setCell ⟨gb311, 3, none⟩ (.int .i64 ((rd_T26 l0 x7_1).f3)))) := ⟨by repeat (first | (with_reducible first | exact HB.out | apply below_alloc | apply pw_below_drewN | apply below_drew1 | refine below_set ?_ GE311.out) | exact HB.out)⟩
              (try clear BK311)
              (try clear HB)
              generalize ((((w19.setCell ⟨gb311, 0, none⟩ (.int .i64 ((rd_T26 l0 x7_1).f0))).setCell ⟨gb311, 1, none⟩ (.int .i64 ((rd_T26 l0 x7_1).f1))).setCell ⟨gb311, 2, none⟩ (.int .i64 ((rd_T26 l0 x7_1).f2))).setCell ⟨gb311, 3, none⟩ (.int .i64 ((rd_T26 l0 x7_1).f3))) = w21 at n0_ n1_ ⊢
              have BK311 := n0_
              have HB := n1_
              clear n0_ n1_
              have n0_ := Aside0.mk (blk_drew BK311.out)
              have n1_ := Aside0.mk (below_drew1 HB.out)
              clear BK311
              clear HB
              have BK311 := n0_
              have HB := n1_
              clear n0_ n1_
              have p316 : 0 ≤ ((ji14) : Int) := of_decide_eq_true (by first | (with_reducible assumption) | assumption)
              have q316 : (ji14) < (l0.length : Int) := of_decide_eq_true (by first | (with_reducible assumption) | assumption)
              obtain ⟨ad316, e316, hx316_0, hx316_1, hx316_2, hx316_3⟩ := at_T26 HR0.out (ji14) p316 q316
              have hw316_3 := hx316_3
              have hw316_2 := hx316_2
              have hw316_1 := hx316_1
              have hw316_0 := hx316_0
              obtain rfl : ad310 = ad316 := (by injection e316)
              replace hx316_0 := (HB.out.cell (World.block_lt_of_cell? w _ hx316_0)).trans hx316_0
              replace hx316_1 := (HB.out.cell (World.block_lt_of_cell? w _ hx316_1)).trans hx316_1
              replace hx316_2 := (HB.out.cell (World.block_lt_of_cell? w _ hx316_2)).trans hx316_2
              replace hx316_3 := (HB.out.cell (World.block_lt_of_cell? w _ hx316_3)).trans hx316_3
              replace p316 := eq_true p316
              replace q316 := eq_true q316
              refine BelowW.region (by kernel_rfl) (by kernel_rfl) ?_
              have hq0_ : w21.drew.cell? ⟨gb311, 0, none⟩ = some (.int .i64 ((rd_T26 l0 x7_1).f0)) := (blk_cell BK311.out 0).trans rfl
              have hq1_ : w21.drew.cell? ⟨gb311, 1, none⟩ = some (.int .i64 ((rd_T26 l0 x7_1).f1)) := (blk_cell BK311.out 1).trans rfl
              have hq2_ : w21.drew.cell? ⟨gb311, 2, none⟩ = some (.int .i64 ((rd_T26 l0 x7_1).f2)) := (blk_cell BK311.out 2).trans rfl
              have hq3_ : w21.drew.cell? ⟨gb311, 3, none⟩ = some (.int .i64 ((rd_T26 l0 x7_1).f3)) := (blk_cell BK311.out 3).trans rfl
              have hq4_ : w21.drew.cell? (ad310.add (((ji14)).toNat * 4)) = some (.int .i64 ((rd_T26 l0 (ji14)).f0)) := ((HB.out.cell (World.block_lt_of_cell? w _ hw316_0)).trans hw316_0)
              have hq5_ : w21.drew.cell? ⟨(ad310.add (((ji14)).toNat * 4)).block, (ad310.add (((ji14)).toNat * 4)).off + 1, none⟩ = some (.int .i64 ((rd_T26 l0 (ji14)).f1)) := ((HB.out.cell (World.block_lt_of_cell? w _ hw316_1)).trans hw316_1)
              have hq6_ : w21.drew.cell? ⟨(ad310.add (((ji14)).toNat * 4)).block, (ad310.add (((ji14)).toNat * 4)).off + 2, none⟩ = some (.int .i64 ((rd_T26 l0 (ji14)).f2)) := ((HB.out.cell (World.block_lt_of_cell? w _ hw316_2)).trans hw316_2)
              have hq7_ : w21.drew.cell? ⟨(ad310.add (((ji14)).toNat * 4)).block, (ad310.add (((ji14)).toNat * 4)).off + 3, none⟩ = some (.int .i64 ((rd_T26 l0 (ji14)).f3)) := ((HB.out.cell (World.block_lt_of_cell? w _ hw316_3)).trans hw316_3)
              generalize w21.drew = w22 at BK311 HB hx316_0 hx316_1 hx316_2 hx316_3 hq0_ hq1_ hq2_ hq3_ hq4_ hq5_ hq6_ hq7_ ⊢
              replace hq0_ := BelowW.at hq0_
              replace hq1_ := BelowW.at hq1_
              replace hq2_ := BelowW.at hq2_
              replace hq3_ := BelowW.at hq3_
              replace hq4_ := BelowW.at hq4_
              replace hq5_ := BelowW.at hq5_
              replace hq6_ := BelowW.at hq6_
              replace hq7_ := BelowW.at hq7_
              change wpQuiet _ _ _ _ (List.cons _ _) _
              repeat (go_big_quiet_step (first | (go_at_call 86; (with_reducible refine (impl_InRange.calls ((rd_T26 l0 x7_1).f0) 0 2000 true _ A5.out).mono ?_); exact fun _ _ h_ => ⟨h_.1, BelowW.drawn _ h_.2⟩) | (go_at_call 86; (with_reducible refine (impl_InRange.calls ((rd_T26 l0 x7_1).f1) 1 96 true _ A7.out).mono ?_); exact fun _ _ h_ => ⟨h_.1, BelowW.drawn _ h_.2⟩) | (go_at_call 86; (with_reducible refine (impl_InRange.calls ((rd_T26 l0 x7_1).f2) 21 108 true _ A9.out).mono ?_); exact fun _ _ h_ => ⟨h_.1, BelowW.drawn _ h_.2⟩) | (go_at_call 86; (with_reducible refine (impl_InRange.calls ((rd_T26 l0 x7_1).f3) 1 4 true _ A11.out).mono ?_); exact fun _ _ h_ => ⟨h_.1, BelowW.drawn _ h_.2⟩) | (go_at_call 81; (with_reducible refine (impl_eventOrder.calls k1 ((rd_T26 l0 (ji14)).f0) ((rd_T26 l0 (ji14)).f1) ((rd_T26 l0 (ji14)).f2) ((rd_T26 l0 (ji14)).f3) ((rd_T26 l0 x7_1).f0) ((rd_T26 l0 x7_1).f1) ((rd_T26 l0 x7_1).f2) ((rd_T26 l0 x7_1).f3) t317 _ A17.out).mono ?_); exact fun _ _ h_ => ⟨h_.1, BelowW.step _ h_.2⟩)))
              refine wpQuiet_nil ?_
              intro w23 hb
              try simp only [i64_w, i32_w]
              clear hq0_ hq1_ hq2_ hq3_ hq4_ hq5_ hq6_ hq7_
              have n0_ := Aside0.mk (blk_below (g := gb311) (o := .cells #[.int .i64 ((rd_T26 l0 x7_1).f0), .int .i64 ((rd_T26 l0 x7_1).f1), .int .i64 ((rd_T26 l0 x7_1).f2), .int .i64 ((rd_T26 l0 x7_1).f3)] 26 (0, 0)) (by (with_reducible repeat (first | refine blk_drewN ?_ _ | refine blk_drew ?_ | refine blk_alloc ?_ _)); exact BK311.out) hb)
              have n1_ := Aside0.mk (below_step (by repeat (first | (with_reducible first | exact HB.out | apply below_alloc | apply pw_below_drewN | apply below_drew1 | refine below_set ?_ GE311.out) | exact HB.out)) hb)
              clear BK311
              clear HB
              have BK311 := n0_
              have HB := n1_
              clear n0_ n1_
              (try clear hb)
              (try clear hb2)
              (try clear hk)
              (try clear hi)
              try go_wp2
              go_ret
              exact ⟨by first | rfl | (simp [errW_none, errW_some] <;> rfl) | (simp only [← hji14]; first | rfl | (simp [errW_none, errW_some] <;> rfl)) | (simp [*, errW_none, errW_some] <;> rfl), by repeat (first | (with_reducible first | exact HB.out | apply below_alloc | apply pw_below_drewN | apply below_drew1 | refine below_set ?_ GE311.out) | exact HB.out)⟩
             ·
              rw [if_neg c18] at H
              have c18b0 : decide (0 ≤ t317) = false := decide_eq_false c18
              clear c18
              have H' := Aside0.mk H
              clear H
              have p310 : 0 ≤ (x7_1 : Int) := of_decide_eq_true (by first | (with_reducible assumption) | assumption)
              have q310 : x7_1 < (l0.length : Int) := of_decide_eq_true (by first | (with_reducible assumption) | assumption)
              obtain ⟨ad310, e310, hx310_0, hx310_1, hx310_2, hx310_3⟩ := at_T26 HR0.out x7_1 p310 q310
              cases e310
              replace hx310_0 := (HB.out.cell (World.block_lt_of_cell? w _ hx310_0)).trans hx310_0
              replace hx310_1 := (HB.out.cell (World.block_lt_of_cell? w _ hx310_1)).trans hx310_1
              replace hx310_2 := (HB.out.cell (World.block_lt_of_cell? w _ hx310_2)).trans hx310_2
              replace hx310_3 := (HB.out.cell (World.block_lt_of_cell? w _ hx310_3)).trans hx310_3
              replace p310 := eq_true p310
              replace q310 := eq_true q310
              try go_wp2_with (first | ((with_reducible refine gate_dst (N := 4) rfl ?_); refine box_event ?hg (N := 4) ?hd (cs := #[.int .i64 0, .int .i64 0, .int .i64 0, .int .i64 0]) (t := 26) ?hr ?_; (case hd => rfl); (case hg => rfl); (case hr => first | (go_simp; done) | (go_simp; rfl)); intro gb311 hg w24 hbox hb; have n0_ := Aside0.mk (below_step (by repeat (first | (with_reducible first | exact HB.out | apply below_alloc | apply pw_below_drewN | apply below_drew1) | exact HB.out)) hb); have n1_ := Aside0.mk (hbox); have n2_ := Aside0.mk ((by rw [hg]; exact (below_size (by repeat (first | (with_reducible first | exact HB.out | apply below_alloc | apply pw_below_drewN | apply below_drew1) | exact HB.out))) : w.heap.size ≤ gb311)); have n3_ := Aside0.mk ((by rw [hg]; exact (below_size (by repeat (first | (with_reducible first | exact HB.out | apply below_alloc | apply pw_below_drewN | apply below_drew1) | exact HB.out))) : w.heap.size ≤ gb311)); clear HB; have HB := n0_; have BK311 := n1_; have GW311 := n2_; have GE311 := n3_; clear n0_ n1_ n2_ n3_; clear hb hbox hg; have hcz25_0 : w24.cell? ⟨gb311, 0, none⟩ = some (.int .i64 0) := (blk_cell BK311.out 0).trans rfl; have hcz25_1 : w24.cell? ⟨gb311, 1, none⟩ = some (.int .i64 0) := (blk_cell BK311.out 1).trans rfl; have hcz25_2 : w24.cell? ⟨gb311, 2, none⟩ = some (.int .i64 0) := (blk_cell BK311.out 2).trans rfl; have hcz25_3 : w24.cell? ⟨gb311, 3, none⟩ = some (.int .i64 0) := (blk_cell BK311.out 3).trans rfl; have hfz25_0 := blk_frozen BK311.out 0; have hfz25_1 := blk_frozen BK311.out 1; have hfz25_2 := blk_frozen BK311.out 2; have hfz25_3 := blk_frozen BK311.out 3))
              have n0_ : Aside0 (((((w24.setCell ⟨gb311, 0, none⟩ (.int .i64 ((rd_T26 l0 x7_1).f0))).setCell ⟨gb311, 1, none⟩ (.int .i64 ((rd_T26 l0 x7_1).f1))).setCell ⟨gb311, 2, none⟩ (.int .i64 ((rd_T26 l0 x7_1).f2))).setCell ⟨gb311, 3, none⟩ (.int .i64 ((rd_T26 l0 x7_1).f3))).heap[gb311]? = some (.cells #[.int .i64 ((rd_T26 l0 x7_1).f0), .int .i64 ((rd_T26 l0 x7_1).f1), .int .i64 ((rd_T26 l0 x7_1).f2), .int .i64 ((rd_T26 l0 x7_1).f3)] 26 (0, 0))) := ⟨by (with_reducible repeat (first | refine blk_drewN ?_ _ | refine blk_drew ?_ | refine blk_alloc ?_ _)); refine blk_put (cs := #[.int .i64 ((rd_T26 l0 x7_1).f0), .int .i64 ((rd_T26 l0 x7_1).f1), .int .i64 ((rd_T26 l0 x7_1).f2), .int .i64 0]) ?_ 3 _ rfl; (with_reducible repeat (first | refine blk_drewN ?_ _ | refine blk_drew ?_ | refine blk_alloc ?_ _)); refine blk_put (cs := #[.int .i64 ((rd_T26 l0 x7_1).f0), .int .i64 ((rd_T26 l0 x7_1).f1), .int .i64 0, .int .i64 0]) ?_ 2 _ rfl; (with_reducible repeat (first | refine blk_drewN ?_ _ | refine blk_drew ?_ | refine blk_alloc ?_ _)); refine blk_put (cs := #[.int .i64 ((rd_T26 l0 x7_1).f0), .int .i64 0, .int .i64 0, .int .i64 0]) ?_ 1 _ rfl; (with_reducible repeat (first | refine blk_drewN ?_ _ | refine blk_drew ?_ | refine blk_alloc ?_ _)); refine blk_put (cs := #[.int .i64 0, .int .i64 0, .int .i64 0, .int .i64 0]) ?_ 0 _ rfl; (with_reducible repeat (first | refine blk_drewN ?_ _ | refine blk_drew ?_ | refine blk_alloc ?_ _)); exact BK311.out⟩
              have n1_ : Aside0 (Below w.heap.size w ((((w24.setCell ⟨gb311, 0, none⟩ (.int .i64 ((rd_T26 l0 x7_1).f0))).setCell ⟨gb311, 1, none⟩ (.int .i64 ((rd_T26 l0 x7_1).f1))).setCell ⟨gb311, 2, none⟩ (.int .i64 ((rd_T26 l0 x7_1).f2))).setCell ⟨gb311, 3, none⟩ (.int .i64 ((rd_T26 l0 x7_1).f3)))) := ⟨by repeat (first | (with_reducible first | exact HB.out | apply below_alloc | apply pw_below_drewN | apply below_drew1 | refine below_set ?_ GE311.out) | exact HB.out)⟩
              (try clear BK311)
              (try clear HB)
              generalize ((((w24.setCell ⟨gb311, 0, none⟩ (.int .i64 ((rd_T26 l0 x7_1).f0))).setCell ⟨gb311, 1, none⟩ (.int .i64 ((rd_T26 l0 x7_1).f1))).setCell ⟨gb311, 2, none⟩ (.int .i64 ((rd_T26 l0 x7_1).f2))).setCell ⟨gb311, 3, none⟩ (.int .i64 ((rd_T26 l0 x7_1).f3))) = w26 at n0_ n1_ ⊢
              have BK311 := n0_
              have HB := n1_
              clear n0_ n1_
              have n0_ := Aside0.mk (blk_drew BK311.out)
              have n1_ := Aside0.mk (below_drew1 HB.out)
              clear BK311
              clear HB
              have BK311 := n0_
              have HB := n1_
              clear n0_ n1_
              have p316 : 0 ≤ ((ji14) : Int) := of_decide_eq_true (by first | (with_reducible assumption) | assumption)
              have q316 : (ji14) < (l0.length : Int) := of_decide_eq_true (by first | (with_reducible assumption) | assumption)
              obtain ⟨ad316, e316, hx316_0, hx316_1, hx316_2, hx316_3⟩ := at_T26 HR0.out (ji14) p316 q316
              have hw316_3 := hx316_3
              have hw316_2 := hx316_2
              have hw316_1 := hx316_1
              have hw316_0 := hx316_0
              obtain rfl : ad310 = ad316 := (by injection e316)
              replace hx316_0 := (HB.out.cell (World.block_lt_of_cell? w _ hx316_0)).trans hx316_0
              replace hx316_1 := (HB.out.cell (World.block_lt_of_cell? w _ hx316_1)).trans hx316_1
              replace hx316_2 := (HB.out.cell (World.block_lt_of_cell? w _ hx316_2)).trans hx316_2
              replace hx316_3 := (HB.out.cell (World.block_lt_of_cell? w _ hx316_3)).trans hx316_3
              replace p316 := eq_true p316
              replace q316 := eq_true q316
              refine BelowW.region (by kernel_rfl) (by kernel_rfl) ?_
              have hq0_ : w26.drew.cell? ⟨gb311, 0, none⟩ = some (.int .i64 ((rd_T26 l0 x7_1).f0)) := (blk_cell BK311.out 0).trans rfl
              have hq1_ : w26.drew.cell? ⟨gb311, 1, none⟩ = some (.int .i64 ((rd_T26 l0 x7_1).f1)) := (blk_cell BK311.out 1).trans rfl
              have hq2_ : w26.drew.cell? ⟨gb311, 2, none⟩ = some (.int .i64 ((rd_T26 l0 x7_1).f2)) := (blk_cell BK311.out 2).trans rfl
              have hq3_ : w26.drew.cell? ⟨gb311, 3, none⟩ = some (.int .i64 ((rd_T26 l0 x7_1).f3)) := (blk_cell BK311.out 3).trans rfl
              have hq4_ : w26.drew.cell? (ad310.add (((ji14)).toNat * 4)) = some (.int .i64 ((rd_T26 l0 (ji14)).f0)) := ((HB.out.cell (World.block_lt_of_cell? w _ hw316_0)).trans hw316_0)
              have hq5_ : w26.drew.cell? ⟨(ad310.add (((ji14)).toNat * 4)).block, (ad310.add (((ji14)).toNat * 4)).off + 1, none⟩ = some (.int .i64 ((rd_T26 l0 (ji14)).f1)) := ((HB.out.cell (World.block_lt_of_cell? w _ hw316_1)).trans hw316_1)
              have hq6_ : w26.drew.cell? ⟨(ad310.add (((ji14)).toNat * 4)).block, (ad310.add (((ji14)).toNat * 4)).off + 2, none⟩ = some (.int .i64 ((rd_T26 l0 (ji14)).f2)) := ((HB.out.cell (World.block_lt_of_cell? w _ hw316_2)).trans hw316_2)
              have hq7_ : w26.drew.cell? ⟨(ad310.add (((ji14)).toNat * 4)).block, (ad310.add (((ji14)).toNat * 4)).off + 3, none⟩ = some (.int .i64 ((rd_T26 l0 (ji14)).f3)) := ((HB.out.cell (World.block_lt_of_cell? w _ hw316_3)).trans hw316_3)
              generalize w26.drew = w27 at BK311 HB hx316_0 hx316_1 hx316_2 hx316_3 hq0_ hq1_ hq2_ hq3_ hq4_ hq5_ hq6_ hq7_ ⊢
              replace hq0_ := BelowW.at hq0_
              replace hq1_ := BelowW.at hq1_
              replace hq2_ := BelowW.at hq2_
              replace hq3_ := BelowW.at hq3_
              replace hq4_ := BelowW.at hq4_
              replace hq5_ := BelowW.at hq5_
              replace hq6_ := BelowW.at hq6_
              replace hq7_ := BelowW.at hq7_
              change wpQuiet _ _ _ _ (List.cons _ _) _
              repeat (go_big_quiet_step (first | (go_at_call 86; (with_reducible refine (impl_InRange.calls ((rd_T26 l0 x7_1).f0) 0 2000 true _ A5.out).mono ?_); exact fun _ _ h_ => ⟨h_.1, BelowW.drawn _ h_.2⟩) | (go_at_call 86; (with_reducible refine (impl_InRange.calls ((rd_T26 l0 x7_1).f1) 1 96 true _ A7.out).mono ?_); exact fun _ _ h_ => ⟨h_.1, BelowW.drawn _ h_.2⟩) | (go_at_call 86; (with_reducible refine (impl_InRange.calls ((rd_T26 l0 x7_1).f2) 21 108 true _ A9.out).mono ?_); exact fun _ _ h_ => ⟨h_.1, BelowW.drawn _ h_.2⟩) | (go_at_call 86; (with_reducible refine (impl_InRange.calls ((rd_T26 l0 x7_1).f3) 1 4 true _ A11.out).mono ?_); exact fun _ _ h_ => ⟨h_.1, BelowW.drawn _ h_.2⟩) | (go_at_call 81; (with_reducible refine (impl_eventOrder.calls k1 ((rd_T26 l0 (ji14)).f0) ((rd_T26 l0 (ji14)).f1) ((rd_T26 l0 (ji14)).f2) ((rd_T26 l0 (ji14)).f3) ((rd_T26 l0 x7_1).f0) ((rd_T26 l0 x7_1).f1) ((rd_T26 l0 x7_1).f2) ((rd_T26 l0 x7_1).f3) t317 _ A17.out).mono ?_); exact fun _ _ h_ => ⟨h_.1, BelowW.step _ h_.2⟩)))
              refine wpQuiet_nil ?_
              intro w28 hb
              try simp only [i64_w, i32_w]
              clear hq0_ hq1_ hq2_ hq3_ hq4_ hq5_ hq6_ hq7_
              have n0_ := Aside0.mk (blk_below (g := gb311) (o := .cells #[.int .i64 ((rd_T26 l0 x7_1).f0), .int .i64 ((rd_T26 l0 x7_1).f1), .int .i64 ((rd_T26 l0 x7_1).f2), .int .i64 ((rd_T26 l0 x7_1).f3)] 26 (0, 0)) (by (with_reducible repeat (first | refine blk_drewN ?_ _ | refine blk_drew ?_ | refine blk_alloc ?_ _)); exact BK311.out) hb)
              have n1_ := Aside0.mk (below_step (by repeat (first | (with_reducible first | exact HB.out | apply below_alloc | apply pw_below_drewN | apply below_drew1 | refine below_set ?_ GE311.out) | exact HB.out)) hb)
              clear BK311
              clear HB
              have BK311 := n0_
              have HB := n1_
              clear n0_ n1_
              (try clear hb)
              (try clear hb2)
              (try clear hk)
              (try clear hi)
              try go_wp2
              go_roundg k1
              case measure => have := HK1.out; omega
              case rel => exact ⟨(wrap64 (x7_1 + 1)), (by first | rfl | (simp; done) | (simp [*]; done)), H', ⟨by have := HK1.out; omega⟩, ⟨by repeat (first | (with_reducible first | exact HB.out | apply below_alloc | apply pw_below_drewN | apply below_drew1 | refine below_set ?_ GE311.out) | exact HB.out)⟩⟩
            ·
             rw [if_neg c16] at H
             exact absurd H (by simp)
           ·
            rw [if_neg c15] at H
            exact absurd H (by simp)
          ·
           rw [if_neg c13] at H
           have c13b0 : decide (0 < x7_1) = false := decide_eq_false c13
           clear c13
           have H' := Aside0.mk H
           clear H
           have p310 : 0 ≤ (x7_1 : Int) := of_decide_eq_true (by first | (with_reducible assumption) | assumption)
           have q310 : x7_1 < (l0.length : Int) := of_decide_eq_true (by first | (with_reducible assumption) | assumption)
           obtain ⟨ad310, e310, hx310_0, hx310_1, hx310_2, hx310_3⟩ := at_T26 HR0.out x7_1 p310 q310
           cases e310
           replace hx310_0 := (HB.out.cell (World.block_lt_of_cell? w _ hx310_0)).trans hx310_0
           replace hx310_1 := (HB.out.cell (World.block_lt_of_cell? w _ hx310_1)).trans hx310_1
           replace hx310_2 := (HB.out.cell (World.block_lt_of_cell? w _ hx310_2)).trans hx310_2
           replace hx310_3 := (HB.out.cell (World.block_lt_of_cell? w _ hx310_3)).trans hx310_3
           replace p310 := eq_true p310
           replace q310 := eq_true q310
           try go_wp2_with (first | ((with_reducible refine gate_dst (N := 4) rfl ?_); refine box_event ?hg (N := 4) ?hd (cs := #[.int .i64 0, .int .i64 0, .int .i64 0, .int .i64 0]) (t := 26) ?hr ?_; (case hd => rfl); (case hg => rfl); (case hr => first | (go_simp; done) | (go_simp; rfl)); intro gb311 hg w29 hbox hb; have n0_ := Aside0.mk (below_step (by repeat (first | (with_reducible first | exact HB.out | apply below_alloc | apply pw_below_drewN | apply below_drew1) | exact HB.out)) hb); have n1_ := Aside0.mk (hbox); have n2_ := Aside0.mk ((by rw [hg]; exact (below_size (by repeat (first | (with_reducible first | exact HB.out | apply below_alloc | apply pw_below_drewN | apply below_drew1) | exact HB.out))) : w.heap.size ≤ gb311)); have n3_ := Aside0.mk ((by rw [hg]; exact (below_size (by repeat (first | (with_reducible first | exact HB.out | apply below_alloc | apply pw_below_drewN | apply below_drew1) | exact HB.out))) : w.heap.size ≤ gb311)); clear HB; have HB := n0_; have BK311 := n1_; have GW311 := n2_; have GE311 := n3_; clear n0_ n1_ n2_ n3_; clear hb hbox hg; have hcz30_0 : w29.cell? ⟨gb311, 0, none⟩ = some (.int .i64 0) := (blk_cell BK311.out 0).trans rfl; have hcz30_1 : w29.cell? ⟨gb311, 1, none⟩ = some (.int .i64 0) := (blk_cell BK311.out 1).trans rfl; have hcz30_2 : w29.cell? ⟨gb311, 2, none⟩ = some (.int .i64 0) := (blk_cell BK311.out 2).trans rfl; have hcz30_3 : w29.cell? ⟨gb311, 3, none⟩ = some (.int .i64 0) := (blk_cell BK311.out 3).trans rfl; have hfz30_0 := blk_frozen BK311.out 0; have hfz30_1 := blk_frozen BK311.out 1; have hfz30_2 := blk_frozen BK311.out 2; have hfz30_3 := blk_frozen BK311.out 3))
           have n0_ : Aside0 (((((w29.setCell ⟨gb311, 0, none⟩ (.int .i64 ((rd_T26 l0 x7_1).f0))).setCell ⟨gb311, 1, none⟩ (.int .i64 ((rd_T26 l0 x7_1).f1))).setCell ⟨gb311, 2, none⟩ (.int .i64 ((rd_T26 l0 x7_1).f2))).setCell ⟨gb311, 3, none⟩ (.int .i64 ((rd_T26 l0 x7_1).f3))).heap[gb311]? = some (.cells #[.int .i64 ((rd_T26 l0 x7_1).f0), .int .i64 ((rd_T26 l0 x7_1).f1), .int .i64 ((rd_T26 l0 x7_1).f2), .int .i64 ((rd_T26 l0 x7_1).f3)] 26 (0, 0))) := ⟨by (with_reducible repeat (first | refine blk_drewN ?_ _ | refine blk_drew ?_ | refine blk_alloc ?_ _)); refine blk_put (cs := #[.int .i64 ((rd_T26 l0 x7_1).f0), .int .i64 ((rd_T26 l0 x7_1).f1), .int .i64 ((rd_T26 l0 x7_1).f2), .int .i64 0]) ?_ 3 _ rfl; (with_reducible repeat (first | refine blk_drewN ?_ _ | refine blk_drew ?_ | refine blk_alloc ?_ _)); refine blk_put (cs := #[.int .i64 ((rd_T26 l0 x7_1).f0), .int .i64 ((rd_T26 l0 x7_1).f1), .int .i64 0, .int .i64 0]) ?_ 2 _ rfl; (with_reducible repeat (first | refine blk_drewN ?_ _ | refine blk_drew ?_ | refine blk_alloc ?_ _)); refine blk_put (cs := #[.int .i64 ((rd_T26 l0 x7_1).f0), .int .i64 0, .int .i64 0, .int .i64 0]) ?_ 1 _ rfl; (with_reducible repeat (first | refine blk_drewN ?_ _ | refine blk_drew ?_ | refine blk_alloc ?_ _)); refine blk_put (cs := #[.int .i64 0, .int .i64 0, .int .i64 0, .int .i64 0]) ?_ 0 _ rfl; (with_reducible repeat (first | refine blk_drewN ?_ _ | refine blk_drew ?_ | refine blk_alloc ?_ _)); exact BK311.out⟩
           have n1_ : Aside0 (Below w.heap.size w ((((w29.setCell ⟨gb311, 0, none⟩ (.int .i64 ((rd_T26 l0 x7_1).f0))).setCell ⟨gb311, 1, none⟩ (.int .i64 ((rd_T26 l0 x7_1).f1))).setCell ⟨gb311, 2, none⟩ (.int .i64 ((rd_T26 l0 x7_1).f2))).setCell ⟨gb311, 3, none⟩ (.int .i64 ((rd_T26 l0 x7_1).f3)))) := ⟨by repeat (first | (with_reducible first | exact HB.out | apply below_alloc | apply pw_below_drewN | apply below_drew1 | refine below_set ?_ GE311.out) | exact HB.out)⟩
           (try clear BK311)
           (try clear HB)
           generalize ((((w29.setCell ⟨gb311, 0, none⟩ (.int .i64 ((rd_T26 l0 x7_1).f0))).setCell ⟨gb311, 1, none⟩ (.int .i64 ((rd_T26 l0 x7_1).f1))).setCell ⟨gb311, 2, none⟩ (.int .i64 ((rd_T26 l0 x7_1).f2))).setCell ⟨gb311, 3, none⟩ (.int .i64 ((rd_T26 l0 x7_1).f3))) = w31 at n0_ n1_ ⊢
           have BK311 := n0_
           have HB := n1_
           clear n0_ n1_
           have n0_ := Aside0.mk (blk_drew BK311.out)
           have n1_ := Aside0.mk (below_drew1 HB.out)
           clear BK311
           clear HB
           have BK311 := n0_
           have HB := n1_
           clear n0_ n1_
           have hq0_ : w31.cell? ⟨gb311, 0, none⟩ = some (.int .i64 ((rd_T26 l0 x7_1).f0)) := (blk_cell BK311.out 0).trans rfl
           have hq1_ : w31.cell? ⟨gb311, 1, none⟩ = some (.int .i64 ((rd_T26 l0 x7_1).f1)) := (blk_cell BK311.out 1).trans rfl
           have hq2_ : w31.cell? ⟨gb311, 2, none⟩ = some (.int .i64 ((rd_T26 l0 x7_1).f2)) := (blk_cell BK311.out 2).trans rfl
           have hq3_ : w31.cell? ⟨gb311, 3, none⟩ = some (.int .i64 ((rd_T26 l0 x7_1).f3)) := (blk_cell BK311.out 3).trans rfl
           go_quiet ((first | (go_at_call 86; apply Calls.quiet_of; ((with_reducible refine (impl_InRange.calls ((rd_T26 l0 x7_1).f0) 0 2000 true _ A5.out).mono ?_); exact fun _ _ h_ => ⟨h_.1, h_.2.out⟩)) | (go_at_call 86; apply Calls.quiet_of; ((with_reducible refine (impl_InRange.calls ((rd_T26 l0 x7_1).f1) 1 96 true _ A7.out).mono ?_); exact fun _ _ h_ => ⟨h_.1, h_.2.out⟩)) | (go_at_call 86; apply Calls.quiet_of; ((with_reducible refine (impl_InRange.calls ((rd_T26 l0 x7_1).f2) 21 108 true _ A9.out).mono ?_); exact fun _ _ h_ => ⟨h_.1, h_.2.out⟩)) | (go_at_call 86; apply Calls.quiet_of; ((with_reducible refine (impl_InRange.calls ((rd_T26 l0 x7_1).f3) 1 4 true _ A11.out).mono ?_); exact fun _ _ h_ => ⟨h_.1, h_.2.out⟩))))
           have nBK311_ := Aside0.mk (blk_drewN (w := w31) BK311.out nq)
           have nHB_ := Aside0.mk (pw_below_drewN (W := w31) ⟨HB.out.os, HB.out.tape, HB.out.output, HB.out.size, HB.out.block⟩ nq)
           clear BK311 HB hq0_ hq1_ hq2_ hq3_
           have BK311 := nBK311_
           have HB := nHB_
           clear nBK311_ nHB_
           generalize w31.drewN nq = w32 at BK311 HB ⊢
           try go_wp2
           go_roundg k1
           case measure => have := HK1.out; omega
           case rel => exact ⟨(wrap64 (x7_1 + 1)), (by first | rfl | (simp; done) | (simp [*]; done)), H', ⟨by have := HK1.out; omega⟩, ⟨by repeat (first | (with_reducible first | exact HB.out | apply below_alloc | apply pw_below_drewN | apply below_drew1 | refine below_set ?_ GE311.out) | exact HB.out)⟩⟩
         ·
          replace c12 := Bool.eq_false_iff.mpr c12
          subst c12
          rw [if_neg (show ¬ (false = true) by decide)] at H
          obtain rfl := Option.some.inj H
          have p310 : 0 ≤ (x7_1 : Int) := of_decide_eq_true (by first | (with_reducible assumption) | assumption)
          have q310 : x7_1 < (l0.length : Int) := of_decide_eq_true (by first | (with_reducible assumption) | assumption)
          obtain ⟨ad310, e310, hx310_0, hx310_1, hx310_2, hx310_3⟩ := at_T26 HR0.out x7_1 p310 q310
          cases e310
          replace hx310_0 := (HB.out.cell (World.block_lt_of_cell? w _ hx310_0)).trans hx310_0
          replace hx310_1 := (HB.out.cell (World.block_lt_of_cell? w _ hx310_1)).trans hx310_1
          replace hx310_2 := (HB.out.cell (World.block_lt_of_cell? w _ hx310_2)).trans hx310_2
          replace hx310_3 := (HB.out.cell (World.block_lt_of_cell? w _ hx310_3)).trans hx310_3
          replace p310 := eq_true p310
          replace q310 := eq_true q310
          try go_wp2_with (first | ((with_reducible refine gate_dst (N := 4) rfl ?_); refine box_event ?hg (N := 4) ?hd (cs := #[.int .i64 0, .int .i64 0, .int .i64 0, .int .i64 0]) (t := 26) ?hr ?_; (case hd => rfl); (case hg => rfl); (case hr => first | (go_simp; done) | (go_simp; rfl)); intro gb311 hg w33 hbox hb; have n0_ := Aside0.mk (below_step (by repeat (first | (with_reducible first | exact HB.out | apply below_alloc | apply pw_below_drewN | apply below_drew1) | exact HB.out)) hb); have n1_ := Aside0.mk (hbox); have n2_ := Aside0.mk ((by rw [hg]; exact (below_size (by repeat (first | (with_reducible first | exact HB.out | apply below_alloc | apply pw_below_drewN | apply below_drew1) | exact HB.out))) : w.heap.size ≤ gb311)); have n3_ := Aside0.mk ((by rw [hg]; exact (below_size (by repeat (first | (with_reducible first | exact HB.out | apply below_alloc | apply pw_below_drewN | apply below_drew1) | exact HB.out))) : w.heap.size ≤ gb311)); clear HB; have HB := n0_; have BK311 := n1_; have GW311 := n2_; have GE311 := n3_; clear n0_ n1_ n2_ n3_; clear hb hbox hg; have hcz34_0 : w33.cell? ⟨gb311, 0, none⟩ = some (.int .i64 0) := (blk_cell BK311.out 0).trans rfl; have hcz34_1 : w33.cell? ⟨gb311, 1, none⟩ = some (.int .i64 0) := (blk_cell BK311.out 1).trans rfl; have hcz34_2 : w33.cell? ⟨gb311, 2, none⟩ = some (.int .i64 0) := (blk_cell BK311.out 2).trans rfl; have hcz34_3 : w33.cell? ⟨gb311, 3, none⟩ = some (.int .i64 0) := (blk_cell BK311.out 3).trans rfl; have hfz34_0 := blk_frozen BK311.out 0; have hfz34_1 := blk_frozen BK311.out 1; have hfz34_2 := blk_frozen BK311.out 2; have hfz34_3 := blk_frozen BK311.out 3))
          have n0_ : Aside0 (((((w33.setCell ⟨gb311, 0, none⟩ (.int .i64 ((rd_T26 l0 x7_1).f0))).setCell ⟨gb311, 1, none⟩ (.int .i64 ((rd_T26 l0 x7_1).f1))).setCell ⟨gb311, 2, none⟩ (.int .i64 ((rd_T26 l0 x7_1).f2))).setCell ⟨gb311, 3, none⟩ (.int .i64 ((rd_T26 l0 x7_1).f3))).heap[gb311]? = some (.cells #[.int .i64 ((rd_T26 l0 x7_1).f0), .int .i64 ((rd_T26 l0 x7_1).f1), .int .i64 ((rd_T26 l0 x7_1).f2), .int .i64 ((rd_T26 l0 x7_1).f3)] 26 (0, 0))) := ⟨by (with_reducible repeat (first | refine blk_drewN ?_ _ | refine blk_drew ?_ | refine blk_alloc ?_ _)); refine blk_put (cs := #[.int .i64 ((rd_T26 l0 x7_1).f0), .int .i64 ((rd_T26 l0 x7_1).f1), .int .i64 ((rd_T26 l0 x7_1).f2), .int .i64 0]) ?_ 3 _ rfl; (with_reducible repeat (first | refine blk_drewN ?_ _ | refine blk_drew ?_ | refine blk_alloc ?_ _)); refine blk_put (cs := #[.int .i64 ((rd_T26 l0 x7_1).f0), .int .i64 ((rd_T26 l0 x7_1).f1), .int .i64 0, .int .i64 0]) ?_ 2 _ rfl; (with_reducible repeat (first | refine blk_drewN ?_ _ | refine blk_drew ?_ | refine blk_alloc ?_ _)); refine blk_put (cs := #[.int .i64 ((rd_T26 l0 x7_1).f0), .int .i64 0, .int .i64 0, .int .i64 0]) ?_ 1 _ rfl; (with_reducible repeat (first | refine blk_drewN ?_ _ | refine blk_drew ?_ | refine blk_alloc ?_ _)); refine blk_put (cs := #[.int .i64 0, .int .i64 0, .int .i64 0, .int .i64 0]) ?_ 0 _ rfl; (with_reducible repeat (first | refine blk_drewN ?_ _ | refine blk_drew ?_ | refine blk_alloc ?_ _)); exact BK311.out⟩
          have n1_ : Aside0 (Below w.heap.size w ((((w33.setCell ⟨gb311, 0, none⟩ (.int .i64 ((rd_T26 l0 x7_1).f0))).setCell ⟨gb311, 1, none⟩ (.int .i64 ((rd_T26 l0 x7_1).f1))).setCell ⟨gb311, 2, none⟩ (.int .i64 ((rd_T26 l0 x7_1).f2))).setCell ⟨gb311, 3, none⟩ (.int .i64 ((rd_T26 l0 x7_1).f3)))) := ⟨by repeat (first | (with_reducible first | exact HB.out | apply below_alloc | apply pw_below_drewN | apply below_drew1 | refine below_set ?_ GE311.out) | exact HB.out)⟩
          (try clear BK311)
          (try clear HB)
          generalize ((((w33.setCell ⟨gb311, 0, none⟩ (.int .i64 ((rd_T26 l0 x7_1).f0))).setCell ⟨gb311, 1, none⟩ (.int .i64 ((rd_T26 l0 x7_1).f1))).setCell ⟨gb311, 2, none⟩ (.int .i64 ((rd_T26 l0 x7_1).f2))).setCell ⟨gb311, 3, none⟩ (.int .i64 ((rd_T26 l0 x7_1).f3))) = w35 at n0_ n1_ ⊢
          have BK311 := n0_
          have HB := n1_
          clear n0_ n1_
          have n0_ := Aside0.mk (blk_drew BK311.out)
          have n1_ := Aside0.mk (below_drew1 HB.out)
          clear BK311
          clear HB
          have BK311 := n0_
          have HB := n1_
          clear n0_ n1_
          have hq0_ : w35.cell? ⟨gb311, 0, none⟩ = some (.int .i64 ((rd_T26 l0 x7_1).f0)) := (blk_cell BK311.out 0).trans rfl
          have hq1_ : w35.cell? ⟨gb311, 1, none⟩ = some (.int .i64 ((rd_T26 l0 x7_1).f1)) := (blk_cell BK311.out 1).trans rfl
          have hq2_ : w35.cell? ⟨gb311, 2, none⟩ = some (.int .i64 ((rd_T26 l0 x7_1).f2)) := (blk_cell BK311.out 2).trans rfl
          have hq3_ : w35.cell? ⟨gb311, 3, none⟩ = some (.int .i64 ((rd_T26 l0 x7_1).f3)) := (blk_cell BK311.out 3).trans rfl
          go_quiet ((first | (go_at_call 86; apply Calls.quiet_of; ((with_reducible refine (impl_InRange.calls ((rd_T26 l0 x7_1).f0) 0 2000 true _ A5.out).mono ?_); exact fun _ _ h_ => ⟨h_.1, h_.2.out⟩)) | (go_at_call 86; apply Calls.quiet_of; ((with_reducible refine (impl_InRange.calls ((rd_T26 l0 x7_1).f1) 1 96 true _ A7.out).mono ?_); exact fun _ _ h_ => ⟨h_.1, h_.2.out⟩)) | (go_at_call 86; apply Calls.quiet_of; ((with_reducible refine (impl_InRange.calls ((rd_T26 l0 x7_1).f2) 21 108 true _ A9.out).mono ?_); exact fun _ _ h_ => ⟨h_.1, h_.2.out⟩)) | (go_at_call 86; apply Calls.quiet_of; ((with_reducible refine (impl_InRange.calls ((rd_T26 l0 x7_1).f3) 1 4 false _ A11.out).mono ?_); exact fun _ _ h_ => ⟨h_.1, h_.2.out⟩))))
          have nBK311_ := Aside0.mk (blk_drewN (w := w35) BK311.out nq)
          have nHB_ := Aside0.mk (pw_below_drewN (W := w35) ⟨HB.out.os, HB.out.tape, HB.out.output, HB.out.size, HB.out.block⟩ nq)
          clear BK311 HB hq0_ hq1_ hq2_ hq3_
          have BK311 := nBK311_
          have HB := nHB_
          clear nBK311_ nHB_
          generalize w35.drewN nq = w36 at BK311 HB ⊢
          try go_wp2
          go_ret
          exact ⟨by first | rfl | (simp [errW_none, errW_some] <;> rfl) | (simp [*, errW_none, errW_some] <;> rfl), by repeat (first | (with_reducible first | exact HB.out | apply below_alloc | apply pw_below_drewN | apply below_drew1 | refine below_set ?_ GE311.out) | exact HB.out)⟩
        ·
         replace c10 := Bool.eq_false_iff.mpr c10
         subst c10
         rw [if_neg (show ¬ (false = true) by decide)] at H
         obtain rfl := Option.some.inj H
         have p310 : 0 ≤ (x7_1 : Int) := of_decide_eq_true (by first | (with_reducible assumption) | assumption)
         have q310 : x7_1 < (l0.length : Int) := of_decide_eq_true (by first | (with_reducible assumption) | assumption)
         obtain ⟨ad310, e310, hx310_0, hx310_1, hx310_2, hx310_3⟩ := at_T26 HR0.out x7_1 p310 q310
         cases e310
         replace hx310_0 := (HB.out.cell (World.block_lt_of_cell? w _ hx310_0)).trans hx310_0
         replace hx310_1 := (HB.out.cell (World.block_lt_of_cell? w _ hx310_1)).trans hx310_1
         replace hx310_2 := (HB.out.cell (World.block_lt_of_cell? w _ hx310_2)).trans hx310_2
         replace hx310_3 := (HB.out.cell (World.block_lt_of_cell? w _ hx310_3)).trans hx310_3
         replace p310 := eq_true p310
         replace q310 := eq_true q310
         try go_wp2_with (first | ((with_reducible refine gate_dst (N := 4) rfl ?_); refine box_event ?hg (N := 4) ?hd (cs := #[.int .i64 0, .int .i64 0, .int .i64 0, .int .i64 0]) (t := 26) ?hr ?_; (case hd => rfl); (case hg => rfl); (case hr => first | (go_simp; done) | (go_simp; rfl)); intro gb311 hg w37 hbox hb; have n0_ := Aside0.mk (below_step (by repeat (first | (with_reducible first | exact HB.out | apply below_alloc | apply pw_below_drewN | apply below_drew1) | exact HB.out)) hb); have n1_ := Aside0.mk (hbox); have n2_ := Aside0.mk ((by rw [hg]; exact (below_size (by repeat (first | (with_reducible first | exact HB.out | apply below_alloc | apply pw_below_drewN | apply below_drew1) | exact HB.out))) : w.heap.size ≤ gb311)); have n3_ := Aside0.mk ((by rw [hg]; exact (below_size (by repeat (first | (with_reducible first | exact HB.out | apply below_alloc | apply pw_below_drewN | apply below_drew1) | exact HB.out))) : w.heap.size ≤ gb311)); clear HB; have HB := n0_; have BK311 := n1_; have GW311 := n2_; have GE311 := n3_; clear n0_ n1_ n2_ n3_; clear hb hbox hg; have hcz38_0 : w37.cell? ⟨gb311, 0, none⟩ = some (.int .i64 0) := (blk_cell BK311.out 0).trans rfl; have hcz38_1 : w37.cell? ⟨gb311, 1, none⟩ = some (.int .i64 0) := (blk_cell BK311.out 1).trans rfl; have hcz38_2 : w37.cell? ⟨gb311, 2, none⟩ = some (.int .i64 0) := (blk_cell BK311.out 2).trans rfl; have hcz38_3 : w37.cell? ⟨gb311, 3, none⟩ = some (.int .i64 0) := (blk_cell BK311.out 3).trans rfl; have hfz38_0 := blk_frozen BK311.out 0; have hfz38_1 := blk_frozen BK311.out 1; have hfz38_2 := blk_frozen BK311.out 2; have hfz38_3 := blk_frozen BK311.out 3))
         have n0_ : Aside0 (((((w37.setCell ⟨gb311, 0, none⟩ (.int .i64 ((rd_T26 l0 x7_1).f0))).setCell ⟨gb311, 1, none⟩ (.int .i64 ((rd_T26 l0 x7_1).f1))).setCell ⟨gb311, 2, none⟩ (.int .i64 ((rd_T26 l0 x7_1).f2))).setCell ⟨gb311, 3, none⟩ (.int .i64 ((rd_T26 l0 x7_1).f3))).heap[gb311]? = some (.cells #[.int .i64 ((rd_T26 l0 x7_1).f0), .int .i64 ((rd_T26 l0 x7_1).f1), .int .i64 ((rd_T26 l0 x7_1).f2), .int .i64 ((rd_T26 l0 x7_1).f3)] 26 (0, 0))) := ⟨by (with_reducible repeat (first | refine blk_drewN ?_ _ | refine blk_drew ?_ | refine blk_alloc ?_ _)); refine blk_put (cs := #[.int .i64 ((rd_T26 l0 x7_1).f0), .int .i64 ((rd_T26 l0 x7_1).f1), .int .i64 ((rd_T26 l0 x7_1).f2), .int .i64 0]) ?_ 3 _ rfl; (with_reducible repeat (first | refine blk_drewN ?_ _ | refine blk_drew ?_ | refine blk_alloc ?_ _)); refine blk_put (cs := #[.int .i64 ((rd_T26 l0 x7_1).f0), .int .i64 ((rd_T26 l0 x7_1).f1), .int .i64 0, .int .i64 0]) ?_ 2 _ rfl; (with_reducible repeat (first | refine blk_drewN ?_ _ | refine blk_drew ?_ | refine blk_alloc ?_ _)); refine blk_put (cs := #[.int .i64 ((rd_T26 l0 x7_1).f0), .int .i64 0, .int .i64 0, .int .i64 0]) ?_ 1 _ rfl; (with_reducible repeat (first | refine blk_drewN ?_ _ | refine blk_drew ?_ | refine blk_alloc ?_ _)); refine blk_put (cs := #[.int .i64 0, .int .i64 0, .int .i64 0, .int .i64 0]) ?_ 0 _ rfl; (with_reducible repeat (first | refine blk_drewN ?_ _ | refine blk_drew ?_ | refine blk_alloc ?_ _)); exact BK311.out⟩
         have n1_ : Aside0 (Below w.heap.size w ((((w37.setCell ⟨gb311, 0, none⟩ (.int .i64 ((rd_T26 l0 x7_1).f0))).setCell ⟨gb311, 1, none⟩ (.int .i64 ((rd_T26 l0 x7_1).f1))).setCell ⟨gb311, 2, none⟩ (.int .i64 ((rd_T26 l0 x7_1).f2))).setCell ⟨gb311, 3, none⟩ (.int .i64 ((rd_T26 l0 x7_1).f3)))) := ⟨by repeat (first | (with_reducible first | exact HB.out | apply below_alloc | apply pw_below_drewN | apply below_drew1 | refine below_set ?_ GE311.out) | exact HB.out)⟩
         (try clear BK311)
         (try clear HB)
         generalize ((((w37.setCell ⟨gb311, 0, none⟩ (.int .i64 ((rd_T26 l0 x7_1).f0))).setCell ⟨gb311, 1, none⟩ (.int .i64 ((rd_T26 l0 x7_1).f1))).setCell ⟨gb311, 2, none⟩ (.int .i64 ((rd_T26 l0 x7_1).f2))).setCell ⟨gb311, 3, none⟩ (.int .i64 ((rd_T26 l0 x7_1).f3))) = w39 at n0_ n1_ ⊢
         have BK311 := n0_
         have HB := n1_
         clear n0_ n1_
         have n0_ := Aside0.mk (blk_drew BK311.out)
         have n1_ := Aside0.mk (below_drew1 HB.out)
         clear BK311
         clear HB
         have BK311 := n0_
         have HB := n1_
         clear n0_ n1_
         have hq0_ : w39.cell? ⟨gb311, 0, none⟩ = some (.int .i64 ((rd_T26 l0 x7_1).f0)) := (blk_cell BK311.out 0).trans rfl
         have hq1_ : w39.cell? ⟨gb311, 1, none⟩ = some (.int .i64 ((rd_T26 l0 x7_1).f1)) := (blk_cell BK311.out 1).trans rfl
         have hq2_ : w39.cell? ⟨gb311, 2, none⟩ = some (.int .i64 ((rd_T26 l0 x7_1).f2)) := (blk_cell BK311.out 2).trans rfl
         have hq3_ : w39.cell? ⟨gb311, 3, none⟩ = some (.int .i64 ((rd_T26 l0 x7_1).f3)) := (blk_cell BK311.out 3).trans rfl
         go_quiet ((first | (go_at_call 86; apply Calls.quiet_of; ((with_reducible refine (impl_InRange.calls ((rd_T26 l0 x7_1).f0) 0 2000 true _ A5.out).mono ?_); exact fun _ _ h_ => ⟨h_.1, h_.2.out⟩)) | (go_at_call 86; apply Calls.quiet_of; ((with_reducible refine (impl_InRange.calls ((rd_T26 l0 x7_1).f1) 1 96 true _ A7.out).mono ?_); exact fun _ _ h_ => ⟨h_.1, h_.2.out⟩)) | (go_at_call 86; apply Calls.quiet_of; ((with_reducible refine (impl_InRange.calls ((rd_T26 l0 x7_1).f2) 21 108 false _ A9.out).mono ?_); exact fun _ _ h_ => ⟨h_.1, h_.2.out⟩))))
         have nBK311_ := Aside0.mk (blk_drewN (w := w39) BK311.out nq)
         have nHB_ := Aside0.mk (pw_below_drewN (W := w39) ⟨HB.out.os, HB.out.tape, HB.out.output, HB.out.size, HB.out.block⟩ nq)
         clear BK311 HB hq0_ hq1_ hq2_ hq3_
         have BK311 := nBK311_
         have HB := nHB_
         clear nBK311_ nHB_
         generalize w39.drewN nq = w40 at BK311 HB ⊢
         try go_wp2
         go_ret
         exact ⟨by first | rfl | (simp [errW_none, errW_some] <;> rfl) | (simp [*, errW_none, errW_some] <;> rfl), by repeat (first | (with_reducible first | exact HB.out | apply below_alloc | apply pw_below_drewN | apply below_drew1 | refine below_set ?_ GE311.out) | exact HB.out)⟩
       ·
        replace c8 := Bool.eq_false_iff.mpr c8
        subst c8
        rw [if_neg (show ¬ (false = true) by decide)] at H
        obtain rfl := Option.some.inj H
        have p310 : 0 ≤ (x7_1 : Int) := of_decide_eq_true (by first | (with_reducible assumption) | assumption)
        have q310 : x7_1 < (l0.length : Int) := of_decide_eq_true (by first | (with_reducible assumption) | assumption)
        obtain ⟨ad310, e310, hx310_0, hx310_1, hx310_2, hx310_3⟩ := at_T26 HR0.out x7_1 p310 q310
        cases e310
        replace hx310_0 := (HB.out.cell (World.block_lt_of_cell? w _ hx310_0)).trans hx310_0
        replace hx310_1 := (HB.out.cell (World.block_lt_of_cell? w _ hx310_1)).trans hx310_1
        replace hx310_2 := (HB.out.cell (World.block_lt_of_cell? w _ hx310_2)).trans hx310_2
        replace hx310_3 := (HB.out.cell (World.block_lt_of_cell? w _ hx310_3)).trans hx310_3
        replace p310 := eq_true p310
        replace q310 := eq_true q310
        try go_wp2_with (first | ((with_reducible refine gate_dst (N := 4) rfl ?_); refine box_event ?hg (N := 4) ?hd (cs := #[.int .i64 0, .int .i64 0, .int .i64 0, .int .i64 0]) (t := 26) ?hr ?_; (case hd => rfl); (case hg => rfl); (case hr => first | (go_simp; done) | (go_simp; rfl)); intro gb311 hg w41 hbox hb; have n0_ := Aside0.mk (below_step (by repeat (first | (with_reducible first | exact HB.out | apply below_alloc | apply pw_below_drewN | apply below_drew1) | exact HB.out)) hb); have n1_ := Aside0.mk (hbox); have n2_ := Aside0.mk ((by rw [hg]; exact (below_size (by repeat (first | (with_reducible first | exact HB.out | apply below_alloc | apply pw_below_drewN | apply below_drew1) | exact HB.out))) : w.heap.size ≤ gb311)); have n3_ := Aside0.mk ((by rw [hg]; exact (below_size (by repeat (first | (with_reducible first | exact HB.out | apply below_alloc | apply pw_below_drewN | apply below_drew1) | exact HB.out))) : w.heap.size ≤ gb311)); clear HB; have HB := n0_; have BK311 := n1_; have GW311 := n2_; have GE311 := n3_; clear n0_ n1_ n2_ n3_; clear hb hbox hg; have hcz42_0 : w41.cell? ⟨gb311, 0, none⟩ = some (.int .i64 0) := (blk_cell BK311.out 0).trans rfl; have hcz42_1 : w41.cell? ⟨gb311, 1, none⟩ = some (.int .i64 0) := (blk_cell BK311.out 1).trans rfl; have hcz42_2 : w41.cell? ⟨gb311, 2, none⟩ = some (.int .i64 0) := (blk_cell BK311.out 2).trans rfl; have hcz42_3 : w41.cell? ⟨gb311, 3, none⟩ = some (.int .i64 0) := (blk_cell BK311.out 3).trans rfl; have hfz42_0 := blk_frozen BK311.out 0; have hfz42_1 := blk_frozen BK311.out 1; have hfz42_2 := blk_frozen BK311.out 2; have hfz42_3 := blk_frozen BK311.out 3))
        have n0_ : Aside0 (((((w41.setCell ⟨gb311, 0, none⟩ (.int .i64 ((rd_T26 l0 x7_1).f0))).setCell ⟨gb311, 1, none⟩ (.int .i64 ((rd_T26 l0 x7_1).f1))).setCell ⟨gb311, 2, none⟩ (.int .i64 ((rd_T26 l0 x7_1).f2))).setCell ⟨gb311, 3, none⟩ (.int .i64 ((rd_T26 l0 x7_1).f3))).heap[gb311]? = some (.cells #[.int .i64 ((rd_T26 l0 x7_1).f0), .int .i64 ((rd_T26 l0 x7_1).f1), .int .i64 ((rd_T26 l0 x7_1).f2), .int .i64 ((rd_T26 l0 x7_1).f3)] 26 (0, 0))) := ⟨by (with_reducible repeat (first | refine blk_drewN ?_ _ | refine blk_drew ?_ | refine blk_alloc ?_ _)); refine blk_put (cs := #[.int .i64 ((rd_T26 l0 x7_1).f0), .int .i64 ((rd_T26 l0 x7_1).f1), .int .i64 ((rd_T26 l0 x7_1).f2), .int .i64 0]) ?_ 3 _ rfl; (with_reducible repeat (first | refine blk_drewN ?_ _ | refine blk_drew ?_ | refine blk_alloc ?_ _)); refine blk_put (cs := #[.int .i64 ((rd_T26 l0 x7_1).f0), .int .i64 ((rd_T26 l0 x7_1).f1), .int .i64 0, .int .i64 0]) ?_ 2 _ rfl; (with_reducible repeat (first | refine blk_drewN ?_ _ | refine blk_drew ?_ | refine blk_alloc ?_ _)); refine blk_put (cs := #[.int .i64 ((rd_T26 l0 x7_1).f0), .int .i64 0, .int .i64 0, .int .i64 0]) ?_ 1 _ rfl; (with_reducible repeat (first | refine blk_drewN ?_ _ | refine blk_drew ?_ | refine blk_alloc ?_ _)); refine blk_put (cs := #[.int .i64 0, .int .i64 0, .int .i64 0, .int .i64 0]) ?_ 0 _ rfl; (with_reducible repeat (first | refine blk_drewN ?_ _ | refine blk_drew ?_ | refine blk_alloc ?_ _)); exact BK311.out⟩
        have n1_ : Aside0 (Below w.heap.size w ((((w41.setCell ⟨gb311, 0, none⟩ (.int .i64 ((rd_T26 l0 x7_1).f0))).setCell ⟨gb311, 1, none⟩ (.int .i64 ((rd_T26 l0 x7_1).f1))).setCell ⟨gb311, 2, none⟩ (.int .i64 ((rd_T26 l0 x7_1).f2))).setCell ⟨gb311, 3, none⟩ (.int .i64 ((rd_T26 l0 x7_1).f3)))) := ⟨by repeat (first | (with_reducible first | exact HB.out | apply below_alloc | apply pw_below_drewN | apply below_drew1 | refine below_set ?_ GE311.out) | exact HB.out)⟩
        (try clear BK311)
        (try clear HB)
        generalize ((((w41.setCell ⟨gb311, 0, none⟩ (.int .i64 ((rd_T26 l0 x7_1).f0))).setCell ⟨gb311, 1, none⟩ (.int .i64 ((rd_T26 l0 x7_1).f1))).setCell ⟨gb311, 2, none⟩ (.int .i64 ((rd_T26 l0 x7_1).f2))).setCell ⟨gb311, 3, none⟩ (.int .i64 ((rd_T26 l0 x7_1).f3))) = w43 at n0_ n1_ ⊢
        have BK311 := n0_
        have HB := n1_
        clear n0_ n1_
        have n0_ := Aside0.mk (blk_drew BK311.out)
        have n1_ := Aside0.mk (below_drew1 HB.out)
        clear BK311
        clear HB
        have BK311 := n0_
        have HB := n1_
        clear n0_ n1_
        have hq0_ : w43.cell? ⟨gb311, 0, none⟩ = some (.int .i64 ((rd_T26 l0 x7_1).f0)) := (blk_cell BK311.out 0).trans rfl
        have hq1_ : w43.cell? ⟨gb311, 1, none⟩ = some (.int .i64 ((rd_T26 l0 x7_1).f1)) := (blk_cell BK311.out 1).trans rfl
        have hq2_ : w43.cell? ⟨gb311, 2, none⟩ = some (.int .i64 ((rd_T26 l0 x7_1).f2)) := (blk_cell BK311.out 2).trans rfl
        have hq3_ : w43.cell? ⟨gb311, 3, none⟩ = some (.int .i64 ((rd_T26 l0 x7_1).f3)) := (blk_cell BK311.out 3).trans rfl
        go_quiet ((first | (go_at_call 86; apply Calls.quiet_of; ((with_reducible refine (impl_InRange.calls ((rd_T26 l0 x7_1).f0) 0 2000 true _ A5.out).mono ?_); exact fun _ _ h_ => ⟨h_.1, h_.2.out⟩)) | (go_at_call 86; apply Calls.quiet_of; ((with_reducible refine (impl_InRange.calls ((rd_T26 l0 x7_1).f1) 1 96 false _ A7.out).mono ?_); exact fun _ _ h_ => ⟨h_.1, h_.2.out⟩))))
        have nBK311_ := Aside0.mk (blk_drewN (w := w43) BK311.out nq)
        have nHB_ := Aside0.mk (pw_below_drewN (W := w43) ⟨HB.out.os, HB.out.tape, HB.out.output, HB.out.size, HB.out.block⟩ nq)
        clear BK311 HB hq0_ hq1_ hq2_ hq3_
        have BK311 := nBK311_
        have HB := nHB_
        clear nBK311_ nHB_
        generalize w43.drewN nq = w44 at BK311 HB ⊢
        try go_wp2
        go_ret
        exact ⟨by first | rfl | (simp [errW_none, errW_some] <;> rfl) | (simp [*, errW_none, errW_some] <;> rfl), by repeat (first | (with_reducible first | exact HB.out | apply below_alloc | apply pw_below_drewN | apply below_drew1 | refine below_set ?_ GE311.out) | exact HB.out)⟩
      ·
       replace c6 := Bool.eq_false_iff.mpr c6
       subst c6
       rw [if_neg (show ¬ (false = true) by decide)] at H
       obtain rfl := Option.some.inj H
       have p310 : 0 ≤ (x7_1 : Int) := of_decide_eq_true (by first | (with_reducible assumption) | assumption)
       have q310 : x7_1 < (l0.length : Int) := of_decide_eq_true (by first | (with_reducible assumption) | assumption)
       obtain ⟨ad310, e310, hx310_0, hx310_1, hx310_2, hx310_3⟩ := at_T26 HR0.out x7_1 p310 q310
       cases e310
       replace hx310_0 := (HB.out.cell (World.block_lt_of_cell? w _ hx310_0)).trans hx310_0
       replace hx310_1 := (HB.out.cell (World.block_lt_of_cell? w _ hx310_1)).trans hx310_1
       replace hx310_2 := (HB.out.cell (World.block_lt_of_cell? w _ hx310_2)).trans hx310_2
       replace hx310_3 := (HB.out.cell (World.block_lt_of_cell? w _ hx310_3)).trans hx310_3
       replace p310 := eq_true p310
       replace q310 := eq_true q310
       try go_wp2_with (first | ((with_reducible refine gate_dst (N := 4) rfl ?_); refine box_event ?hg (N := 4) ?hd (cs := #[.int .i64 0, .int .i64 0, .int .i64 0, .int .i64 0]) (t := 26) ?hr ?_; (case hd => rfl); (case hg => rfl); (case hr => first | (go_simp; done) | (go_simp; rfl)); intro gb311 hg w45 hbox hb; have n0_ := Aside0.mk (below_step (by repeat (first | (with_reducible first | exact HB.out | apply below_alloc | apply pw_below_drewN | apply below_drew1) | exact HB.out)) hb); have n1_ := Aside0.mk (hbox); have n2_ := Aside0.mk ((by rw [hg]; exact (below_size (by repeat (first | (with_reducible first | exact HB.out | apply below_alloc | apply pw_below_drewN | apply below_drew1) | exact HB.out))) : w.heap.size ≤ gb311)); have n3_ := Aside0.mk ((by rw [hg]; exact (below_size (by repeat (first | (with_reducible first | exact HB.out | apply below_alloc | apply pw_below_drewN | apply below_drew1) | exact HB.out))) : w.heap.size ≤ gb311)); clear HB; have HB := n0_; have BK311 := n1_; have GW311 := n2_; have GE311 := n3_; clear n0_ n1_ n2_ n3_; clear hb hbox hg; have hcz46_0 : w45.cell? ⟨gb311, 0, none⟩ = some (.int .i64 0) := (blk_cell BK311.out 0).trans rfl; have hcz46_1 : w45.cell? ⟨gb311, 1, none⟩ = some (.int .i64 0) := (blk_cell BK311.out 1).trans rfl; have hcz46_2 : w45.cell? ⟨gb311, 2, none⟩ = some (.int .i64 0) := (blk_cell BK311.out 2).trans rfl; have hcz46_3 : w45.cell? ⟨gb311, 3, none⟩ = some (.int .i64 0) := (blk_cell BK311.out 3).trans rfl; have hfz46_0 := blk_frozen BK311.out 0; have hfz46_1 := blk_frozen BK311.out 1; have hfz46_2 := blk_frozen BK311.out 2; have hfz46_3 := blk_frozen BK311.out 3))
       have n0_ : Aside0 (((((w45.setCell ⟨gb311, 0, none⟩ (.int .i64 ((rd_T26 l0 x7_1).f0))).setCell ⟨gb311, 1, none⟩ (.int .i64 ((rd_T26 l0 x7_1).f1))).setCell ⟨gb311, 2, none⟩ (.int .i64 ((rd_T26 l0 x7_1).f2))).setCell ⟨gb311, 3, none⟩ (.int .i64 ((rd_T26 l0 x7_1).f3))).heap[gb311]? = some (.cells #[.int .i64 ((rd_T26 l0 x7_1).f0), .int .i64 ((rd_T26 l0 x7_1).f1), .int .i64 ((rd_T26 l0 x7_1).f2), .int .i64 ((rd_T26 l0 x7_1).f3)] 26 (0, 0))) := ⟨by (with_reducible repeat (first | refine blk_drewN ?_ _ | refine blk_drew ?_ | refine blk_alloc ?_ _)); refine blk_put (cs := #[.int .i64 ((rd_T26 l0 x7_1).f0), .int .i64 ((rd_T26 l0 x7_1).f1), .int .i64 ((rd_T26 l0 x7_1).f2), .int .i64 0]) ?_ 3 _ rfl; (with_reducible repeat (first | refine blk_drewN ?_ _ | refine blk_drew ?_ | refine blk_alloc ?_ _)); refine blk_put (cs := #[.int .i64 ((rd_T26 l0 x7_1).f0), .int .i64 ((rd_T26 l0 x7_1).f1), .int .i64 0, .int .i64 0]) ?_ 2 _ rfl; (with_reducible repeat (first | refine blk_drewN ?_ _ | refine blk_drew ?_ | refine blk_alloc ?_ _)); refine blk_put (cs := #[.int .i64 ((rd_T26 l0 x7_1).f0), .int .i64 0, .int .i64 0, .int .i64 0]) ?_ 1 _ rfl; (with_reducible repeat (first | refine blk_drewN ?_ _ | refine blk_drew ?_ | refine blk_alloc ?_ _)); refine blk_put (cs := #[.int .i64 0, .int .i64 0, .int .i64 0, .int .i64 0]) ?_ 0 _ rfl; (with_reducible repeat (first | refine blk_drewN ?_ _ | refine blk_drew ?_ | refine blk_alloc ?_ _)); exact BK311.out⟩
       have n1_ : Aside0 (Below w.heap.size w ((((w45.setCell ⟨gb311, 0, none⟩ (.int .i64 ((rd_T26 l0 x7_1).f0))).setCell ⟨gb311, 1, none⟩ (.int .i64 ((rd_T26 l0 x7_1).f1))).setCell ⟨gb311, 2, none⟩ (.int .i64 ((rd_T26 l0 x7_1).f2))).setCell ⟨gb311, 3, none⟩ (.int .i64 ((rd_T26 l0 x7_1).f3)))) := ⟨by repeat (first | (with_reducible first | exact HB.out | apply below_alloc | apply pw_below_drewN | apply below_drew1 | refine below_set ?_ GE311.out) | exact HB.out)⟩
       (try clear BK311)
       (try clear HB)
       generalize ((((w45.setCell ⟨gb311, 0, none⟩ (.int .i64 ((rd_T26 l0 x7_1).f0))).setCell ⟨gb311, 1, none⟩ (.int .i64 ((rd_T26 l0 x7_1).f1))).setCell ⟨gb311, 2, none⟩ (.int .i64 ((rd_T26 l0 x7_1).f2))).setCell ⟨gb311, 3, none⟩ (.int .i64 ((rd_T26 l0 x7_1).f3))) = w47 at n0_ n1_ ⊢
       have BK311 := n0_
       have HB := n1_
       clear n0_ n1_
       have n0_ := Aside0.mk (blk_drew BK311.out)
       have n1_ := Aside0.mk (below_drew1 HB.out)
       clear BK311
       clear HB
       have BK311 := n0_
       have HB := n1_
       clear n0_ n1_
       have hq0_ : w47.cell? ⟨gb311, 0, none⟩ = some (.int .i64 ((rd_T26 l0 x7_1).f0)) := (blk_cell BK311.out 0).trans rfl
       have hq1_ : w47.cell? ⟨gb311, 1, none⟩ = some (.int .i64 ((rd_T26 l0 x7_1).f1)) := (blk_cell BK311.out 1).trans rfl
       have hq2_ : w47.cell? ⟨gb311, 2, none⟩ = some (.int .i64 ((rd_T26 l0 x7_1).f2)) := (blk_cell BK311.out 2).trans rfl
       have hq3_ : w47.cell? ⟨gb311, 3, none⟩ = some (.int .i64 ((rd_T26 l0 x7_1).f3)) := (blk_cell BK311.out 3).trans rfl
       go_quiet ((first | (go_at_call 86; apply Calls.quiet_of; ((with_reducible refine (impl_InRange.calls ((rd_T26 l0 x7_1).f0) 0 2000 false _ A5.out).mono ?_); exact fun _ _ h_ => ⟨h_.1, h_.2.out⟩))))
       have nBK311_ := Aside0.mk (blk_drewN (w := w47) BK311.out nq)
       have nHB_ := Aside0.mk (pw_below_drewN (W := w47) ⟨HB.out.os, HB.out.tape, HB.out.output, HB.out.size, HB.out.block⟩ nq)
       clear BK311 HB hq0_ hq1_ hq2_ hq3_
       have BK311 := nBK311_
       have HB := nHB_
       clear nBK311_ nHB_
       generalize w47.drewN nq = w48 at BK311 HB ⊢
       try go_wp2
       go_ret
       exact ⟨by first | rfl | (simp [errW_none, errW_some] <;> rfl) | (simp [*, errW_none, errW_some] <;> rfl), by repeat (first | (with_reducible first | exact HB.out | apply below_alloc | apply pw_below_drewN | apply below_drew1 | refine below_set ?_ GE311.out) | exact HB.out)⟩
     ·
      rw [if_neg c4] at H
      exact absurd H (by simp)
    ·
     rw [if_neg c3] at H
     exact absurd H (by simp)
   ·
    rw [if_neg c2] at H
    have c2b0 : decide (x7_1 < (l0.length : Int)) = false := decide_eq_false c2
    clear c2
    obtain rfl := Option.some.inj H
    go_wp2
    go_ret
    exact ⟨by first | rfl | (simp [errW_none, errW_some] <;> rfl) | (simp [*, errW_none, errW_some] <;> rfl), by repeat (first | (with_reducible first | exact HB.out | apply below_alloc | apply pw_below_drewN | apply below_drew1) | exact HB.out)⟩
end Go.Proofs.Ytbhlmeghbfmgiaa.F

namespace Go.Proofs.Ytbhlmeghbfmgiaa.F
open Go.RowKit Go.Proofs.YtbhlmeghbfmgiaaW.PrintWords Go.Proofs.YtbhlmeghbfmgiaaW.PrintLast Go.Proofs.YtbhlmeghbfmgiaaW.PrintMore
attribute [local go_sem] max2_int min2_int max_two min_two max_three min_three max_four min_four
set_option linter.unusedVariables false
set_option linter.unusedSimpArgs false
def impl_Event_83.f (l0 : List (S26)) : Option ((List (S26))) := (some (([] : List (S26)) : List (S26))).bind fun y333 => (if y333.length + l0.length < 4398046511104 then (some (y333 ++ l0)) else (none))
set_option maxHeartbeats 8000000 in
set_option maxRecDepth 100000 in
theorem impl_Event_83.calls (A0 : Option Addr) (c0 : Nat) (l0 : List (S26)) (r : List (S26)) (w : World) (hr0 : Kd.C k26 w A0 l0.length l0) (hc0 : l0.length ≤ c0) (h : impl_Event_83.f l0 = some r) :
  Calls Try.prog 83 #[.slice A0 l0.length c0] w fun e w' => ∃ v0_ : Value, e = .returned (v0_) ∧ Kd.R k26 26 w' w.heap.size (fun _ => True) v0_ r ∧ Below w.heap.size w w' := by
 have HR0 := Aside0.mk hr0
 have HC0 := Aside0.mk hc0
 clear hr0 hc0
 have HB := Aside0.mk (Below.refl w.heap.size w)
 have H : ((some (([] : List (S26)) : List (S26))).bind fun y333 => (if y333.length + l0.length < 4398046511104 then (some (y333 ++ l0)) else (none))) = some r := h
 clear h
 obtain ⟨y333, hy333⟩ : ∃ y_ : List (S26), y_ = (([] : List (S26))) := ⟨_, rfl⟩
 replace H : (if y333.length + l0.length < 4398046511104 then (some (y333 ++ l0)) else (none)) = some r := by first | (rw [hy333]; with_reducible exact H) | (have H2_ := (Option.bind_some _ _).symm.trans H; rw [hy333]; with_reducible exact H2_) | (have H2_ := (Option.bind_some _ _).symm.trans H; with_reducible exact H2_) | with_reducible exact H | (rw [hy333]; exact H) | exact H
 have Ny333 := Aside0.mk hy333
 clear hy333
 by_cases c2 : y333.length + l0.length < 4398046511104
 ·
  rw [if_pos c2] at H
  have LMc2 := Aside0.mk c2
  clear c2
  obtain ⟨y336, hy336⟩ : ∃ y_ : List (S26), y_ = (y333 ++ l0) := ⟨_, rfl⟩
  replace H : (some y336) = some r := by first | (rw [hy336]; with_reducible exact H) | (have H2_ := (Option.bind_some _ _).symm.trans H; rw [hy336]; with_reducible exact H2_) | (have H2_ := (Option.bind_some _ _).symm.trans H; with_reducible exact H2_) | with_reducible exact H | (rw [hy336]; exact H) | exact H
  have Ny336 := Aside0.mk hy336
  clear hy336
  obtain rfl := Option.some.inj H
  go_enter Try.func83, Try.ntmps83
  go_wp2_with (first | ((with_reducible refine gate_dst (N := 3) rfl ?_); refine Kd.R_lit k26 _ 26 ?hg (N := 3) ?hd (xs := ([] : List (S26))) (inner := []) (ok := fun _ => True) (okp := fun _ => True) ?hr ?hp (fun _ hk => hk) trivial (Below.refl _ _) (Nat.le_refl _) (by simp) ?_; (case hd => rfl); (case hg => rfl); (case hr => first | (go_simp; done) | (go_simp; rfl)); (case hp => exact (Reps.none _ _)); intro v334 w3 ho4 hb hg_ hnew_; clear hg_ hnew_; (first | rw [← Ny333.out] at ho4 | (simp only [Int.reduceToNat] at ho4; rw [← Ny333.out] at ho4)); have n0_ := Aside0.mk (Kd.R_lower ho4 (below_size (by repeat (first | (with_reducible first | exact HB.out | apply below_alloc | apply pw_below_drewN | apply below_drew1) | exact HB.out)))); have n1_ := Aside0.mk (below_step (by repeat (first | (with_reducible first | exact HB.out | apply below_alloc | apply pw_below_drewN | apply below_drew1) | exact HB.out)) hb); clear HB; have HO335 := n0_; have HB := n1_; clear n0_ n1_; clear hb ho4) | ((with_reducible refine gate_builtin (b := .append) (xs := #[.tmp 3, .tmp 4]) rfl ?_); at_builtin; refine Kd.R_append_rows k26 (w0 := w) w.heap.size rfl (.tmp 3) (.tmp 4) 24 26 (.agg #[(.int .i64 0), (.int .i64 0), (.int .i64 0), (.int .i64 0)]) 32 rfl Try.underlying24 info26 rfl (by decide) (by omega) v334 y333 l0 _ _ _ (fun _ => True) (fun _ => False) rfl rfl ?aO ?aR (fun _ _ h => h) (fun _ h => h.elim) ?aF ?aB ?aS ?aL ?_; (case aR => repeat (first | exact (Kd.C_below HR0.out HB.out) | (with_reducible refine Kd.C_alloc ?_ _) | (with_reducible refine Kd.C_drewN ?_ _) | (with_reducible refine Kd.C_drew ?_))); (case aB => exact (by repeat (first | (with_reducible first | exact HB.out | apply below_alloc | apply pw_below_drewN | apply below_drew1) | exact HB.out))); (case aF => exact (fun _ _ => trivial)); (case aO => exact (by (with_reducible repeat (first | apply Kd.R_alloc | apply Kd.R_drewN | apply Kd.R_drew)); exact HO335.out)); (case aS => exact (below_size (by repeat (first | (with_reducible first | exact HB.out | apply below_alloc | apply pw_below_drewN | apply below_drew1) | exact HB.out)))); (case aL => have := LMc2.out; omega); intro v337 w5 ho hb hg hat; rw [← Ny336.out] at ho; have n0_ := Aside0.mk (hb); have n1_ := Aside0.mk (ho); clear HB; clear HO335; have HB := n0_; have HO338 := n1_; clear n0_ n1_; clear ho hb hg hat))
  go_ret
  exact ⟨_, by first | rfl | (simp [errW_none, errW_some] <;> rfl) | (simp [*, errW_none, errW_some] <;> rfl), by (with_reducible repeat (first | apply Kd.R_alloc | apply Kd.R_drewN | apply Kd.R_drew)); exact HO338.out, by repeat (first | (with_reducible first | exact HB.out | apply below_alloc | apply pw_below_drewN | apply below_drew1) | exact HB.out)⟩
 ·
  rw [if_neg c2] at H
  exact absurd H (by simp)
end Go.Proofs.Ytbhlmeghbfmgiaa.F

namespace Go.Proofs.Ytbhlmeghbfmgiaa.F
open Go.RowKit Go.Proofs.YtbhlmeghbfmgiaaW.PrintWords Go.Proofs.YtbhlmeghbfmgiaaW.PrintLast Go.Proofs.YtbhlmeghbfmgiaaW.PrintMore
attribute [local go_sem] max2_int min2_int max_two min_two max_three min_three max_four min_four
set_option linter.unusedVariables false
set_option linter.unusedSimpArgs false
theorem eqA26 (d : Nat) (w : World) (x0 y0 : Int) (x1 y1 : Int) (x2 y2 : Int) (x3 y3 : Int) :
  (Op.equalIn (d + 2) 26 (.agg #[.int .i64 x0, .int .i64 x1, .int .i64 x2, .int .i64 x3]) (.agg #[.int .i64 y0, .int .i64 y1, .int .i64 y2, .int .i64 y3])).run Try.prog w = .ok (x0 == y0 && (x1 == y1 && (x2 == y2 && (x3 == y3)))) w := by
 refine eqA_of Try.underlying26 (by kernel_rfl) ?_
 refine eqf_cons (by rfl) (by go_simp; rfl) (by go_simp; rfl) (by go_simp) ?_
 refine eqf_cons (by rfl) (by go_simp; rfl) (by go_simp; rfl) (by go_simp) ?_
 refine eqf_cons (by rfl) (by go_simp; rfl) (by go_simp; rfl) (by go_simp) ?_
 exact eqf_last (by rfl) (by go_simp; rfl) (by go_simp; rfl) (by go_simp)
end Go.Proofs.Ytbhlmeghbfmgiaa.F

namespace Go.Proofs.Ytbhlmeghbfmgiaa.F
open Go.RowKit Go.Proofs.YtbhlmeghbfmgiaaW.PrintWords Go.Proofs.YtbhlmeghbfmgiaaW.PrintLast Go.Proofs.YtbhlmeghbfmgiaaW.PrintMore
attribute [local go_sem] max2_int min2_int max_two min_two max_three min_three max_four min_four
set_option linter.unusedVariables false
set_option linter.unusedSimpArgs false
attribute [local go_sem high] eqA26
def impl_Event_84.l0 : Nat → List (S26) → Int → Int → Int → Int → Int → Int → Option (Int)
 | 0, _, _, _, _, _, _, _ => none
 | k + 1, x0, x7, x8, x340000, x340001, x340002, x340003 => if x8 < x7 then (if 0 ≤ x8 then (if x8 < (x0.length : Int) then (if (x340000 == ((rd_T26 x0 x8).f0) && (x340001 == ((rd_T26 x0 x8).f1) && (x340002 == ((rd_T26 x0 x8).f2) && (x340003 == ((rd_T26 x0 x8).f3))))) = true then (some x8) else (impl_Event_84.l0 k x0 x7 (wrap64 (x8 + 1)) x340000 x340001 x340002 x340003)) else (none)) else (none)) else (some (-1))
def impl_Event_84.f (k : Nat) (l0 : List (S26)) (a1_0 : Int) (a1_1 : Int) (a1_2 : Int) (a1_3 : Int) : Option (Int) := impl_Event_84.l0 k l0 (l0.length : Int) 0 a1_0 a1_1 a1_2 a1_3
set_option maxHeartbeats 8000000 in
set_option maxRecDepth 100000 in
theorem impl_Event_84.calls (k : Nat) (A0 : Option Addr) (c0 : Nat) (l0 : List (S26)) (a1_0 : Int) (a1_1 : Int) (a1_2 : Int) (a1_3 : Int) (r : Int) (w : World) (hr0 : Kd.C k26 w A0 l0.length l0) (hc0 : l0.length ≤ c0) (h : impl_Event_84.f k l0 a1_0 a1_1 a1_2 a1_3 = some r) :
  Calls Try.prog 84 #[.slice A0 l0.length c0, .agg #[.int .i64 a1_0, .int .i64 a1_1, .int .i64 a1_2, .int .i64 a1_3]] w fun e w' => e = .returned (.int .i64 r) ∧ Below w.heap.size w w' := by
 have hu26 := Try.underlying26
 have HR0 := Aside0.mk hr0
 have HC0 := Aside0.mk hc0
 clear hr0 hc0
 have HB := Aside0.mk (Below.refl w.heap.size w)
 have H : (impl_Event_84.l0 k l0 (l0.length : Int) 0 a1_0 a1_1 a1_2 a1_3) = some r := h
 clear h
 have H' := Aside0.mk H
 clear H
 go_enter Try.func84, Try.ntmps84
 go_wp2_with (first | ((with_reducible refine gate_dst (N := 3) rfl ?_); refine box_event ?hg (N := 3) ?hd (cs := #[.int .i64 a1_0, .int .i64 a1_1, .int .i64 a1_2, .int .i64 a1_3]) (t := 26) ?hr ?_; (case hd => rfl); (case hg => rfl); (case hr => first | (go_simp; done) | (go_simp; rfl)); intro gb339 hg w3 hbox hb; have n0_ := Aside0.mk (below_step (by repeat (first | (with_reducible first | exact HB.out | apply below_alloc | apply pw_below_drewN | apply below_drew1) | exact HB.out)) hb); have n1_ := Aside0.mk (hbox); have n2_ := Aside0.mk ((by rw [hg]; exact (below_size (by repeat (first | (with_reducible first | exact HB.out | apply below_alloc | apply pw_below_drewN | apply below_drew1) | exact HB.out))) : w.heap.size ≤ gb339)); have n3_ := Aside0.mk ((by rw [hg]; exact (below_size (by repeat (first | (with_reducible first | exact HB.out | apply below_alloc | apply pw_below_drewN | apply below_drew1) | exact HB.out))) : w.heap.size ≤ gb339)); clear HB; have HB := n0_; have BK339 := n1_; have GW339 := n2_; have GE339 := n3_; clear n0_ n1_ n2_ n3_; clear hb hbox hg))
 repeat (go_quiet (first | ((with_reducible refine gate_dst (N := 3) rfl ?_); refine box_event ?hg (N := 3) ?hd (cs := #[.int .i64 a1_0, .int .i64 a1_1, .int .i64 a1_2, .int .i64 a1_3]) (t := 26) ?hr ?_; (case hd => rfl); (case hg => rfl); (case hr => first | (go_simp; done) | (go_simp; rfl)); intro gb339 hg w3 hbox hb; have n0_ := Aside0.mk (below_step (by repeat (first | (with_reducible first | exact HB.out | apply below_alloc | apply pw_below_drewN | apply below_drew1) | exact HB.out)) hb); have n1_ := Aside0.mk (hbox); have n2_ := Aside0.mk ((by rw [hg]; exact (below_size (by repeat (first | (with_reducible first | exact HB.out | apply below_alloc | apply pw_below_drewN | apply below_drew1) | exact HB.out))) : w.heap.size ≤ gb339)); have n3_ := Aside0.mk ((by rw [hg]; exact (below_size (by repeat (first | (with_reducible first | exact HB.out | apply below_alloc | apply pw_below_drewN | apply below_drew1) | exact HB.out))) : w.heap.size ≤ gb339)); clear HB; have HB := n0_; have BK339 := n1_; have GW339 := n2_; have GE339 := n3_; clear n0_ n1_ n2_ n3_; clear hb hbox hg)); try go_wp2_with (first | ((with_reducible refine gate_dst (N := 3) rfl ?_); refine box_event ?hg (N := 3) ?hd (cs := #[.int .i64 a1_0, .int .i64 a1_1, .int .i64 a1_2, .int .i64 a1_3]) (t := 26) ?hr ?_; (case hd => rfl); (case hg => rfl); (case hr => first | (go_simp; done) | (go_simp; rfl)); intro gb339 hg w3 hbox hb; have n0_ := Aside0.mk (below_step (by repeat (first | (with_reducible first | exact HB.out | apply below_alloc | apply pw_below_drewN | apply below_drew1) | exact HB.out)) hb); have n1_ := Aside0.mk (hbox); have n2_ := Aside0.mk ((by rw [hg]; exact (below_size (by repeat (first | (with_reducible first | exact HB.out | apply below_alloc | apply pw_below_drewN | apply below_drew1) | exact HB.out))) : w.heap.size ≤ gb339)); have n3_ := Aside0.mk ((by rw [hg]; exact (below_size (by repeat (first | (with_reducible first | exact HB.out | apply below_alloc | apply pw_below_drewN | apply below_drew1) | exact HB.out))) : w.heap.size ≤ gb339)); clear HB; have HB := n0_; have BK339 := n1_; have GW339 := n2_; have GE339 := n3_; clear n0_ n1_ n2_ n3_; clear hb hbox hg)))
 go_loopg [8] k (fun kq v8 w' => ∃ (x8_1 : Int), v8 = .int .i64 x8_1 ∧ Aside0 (impl_Event_84.l0 kq l0 (l0.length : Int) x8_1 a1_0 a1_1 a1_2 a1_3 = some r) ∧ Aside0 (kq ≤ k) ∧ Aside0 (w'.heap[gb339]? = some (.cells #[.int .i64 a1_0, .int .i64 a1_1, .int .i64 a1_2, .int .i64 a1_3] 26 (0, 0))) ∧ Aside0 (Below w.heap.size w w'))
 case atStart => exact ⟨(0), (by first | rfl | (simp; done) | (simp [*]; done)), H', ⟨Nat.le_refl _⟩, ⟨by (with_reducible repeat (first | refine blk_drewN ?_ _ | refine blk_drew ?_ | refine blk_alloc ?_ _)); exact BK339.out⟩, ⟨by repeat (first | (with_reducible first | exact HB.out | apply below_alloc | apply pw_below_drewN | apply below_drew1 | refine below_set ?_ GE339.out) | exact HB.out)⟩⟩
 case round =>
  clear H'
  try clear p2
  obtain ⟨x8_1, rfl, HA, HK1, BK339, HB⟩ := hrel
  cases gk with
  | zero => exact absurd HA.out (by simp [impl_Event_84.l0])
  | succ k1 =>
   have H := HA.out
   clear HA
   simp only [impl_Event_84.l0] at H
   by_cases c4 : x8_1 < (l0.length : Int)
   ·
    rw [if_pos c4] at H
    have c4b0 : decide (x8_1 < (l0.length : Int)) = true := decide_eq_true c4
    clear c4
    by_cases c5 : 0 ≤ x8_1
    ·
     rw [if_pos c5] at H
     have c5b0 : decide (0 ≤ x8_1) = true := decide_eq_true c5
     clear c5
     by_cases c6 : x8_1 < (l0.length : Int)
     ·
      rw [if_pos c6] at H
      have c6b0 : decide (x8_1 < (l0.length : Int)) = true := decide_eq_true c6
      clear c6
      by_cases c7 : (a1_0 == ((rd_T26 l0 x8_1).f0) && (a1_1 == ((rd_T26 l0 x8_1).f1) && (a1_2 == ((rd_T26 l0 x8_1).f2) && (a1_3 == ((rd_T26 l0 x8_1).f3))))) = true
      ·
       rw [if_pos c7] at H
       have c7b0 : (a1_0 == ((rd_T26 l0 x8_1).f0) && (a1_1 == ((rd_T26 l0 x8_1).f1) && (a1_2 == ((rd_T26 l0 x8_1).f2) && (a1_3 == ((rd_T26 l0 x8_1).f3))))) = true := c7
       (try (have c7b1 : decide (a1_0 = ((rd_T26 l0 x8_1).f0) && (a1_1 == ((rd_T26 l0 x8_1).f1) && (a1_2 == ((rd_T26 l0 x8_1).f2) && (a1_3 == ((rd_T26 l0 x8_1).f3))))) = true := by simpa using c7))
       (try (have c7b2 : (a1_0 == ((rd_T26 l0 x8_1).f0) && (a1_1 == ((rd_T26 l0 x8_1).f1) && (a1_2 == ((rd_T26 l0 x8_1).f2) && (a1_3 == ((rd_T26 l0 x8_1).f3))))) = true := by simpa using c7))
       clear c7
       obtain rfl := Option.some.inj H
       have hcz8_0 : wr.cell? ⟨gb339, 0, none⟩ = some (.int .i64 a1_0) := (blk_cell BK339.out 0).trans rfl
       have hcz8_1 : wr.cell? ⟨gb339, 1, none⟩ = some (.int .i64 a1_1) := (blk_cell BK339.out 1).trans rfl
       have hcz8_2 : wr.cell? ⟨gb339, 2, none⟩ = some (.int .i64 a1_2) := (blk_cell BK339.out 2).trans rfl
       have hcz8_3 : wr.cell? ⟨gb339, 3, none⟩ = some (.int .i64 a1_3) := (blk_cell BK339.out 3).trans rfl
       have hfz8_0 := blk_frozen BK339.out 0
       have hfz8_1 := blk_frozen BK339.out 1
       have hfz8_2 := blk_frozen BK339.out 2
       have hfz8_3 := blk_frozen BK339.out 3
       have p340 : 0 ≤ (x8_1 : Int) := of_decide_eq_true (by first | (with_reducible assumption) | assumption)
       have q340 : x8_1 < (l0.length : Int) := of_decide_eq_true (by first | (with_reducible assumption) | assumption)
       obtain ⟨ad340, e340, hx340_0, hx340_1, hx340_2, hx340_3⟩ := at_T26 HR0.out x8_1 p340 q340
       cases e340
       replace hx340_0 := (HB.out.cell (World.block_lt_of_cell? w _ hx340_0)).trans hx340_0
       replace hx340_1 := (HB.out.cell (World.block_lt_of_cell? w _ hx340_1)).trans hx340_1
       replace hx340_2 := (HB.out.cell (World.block_lt_of_cell? w _ hx340_2)).trans hx340_2
       replace hx340_3 := (HB.out.cell (World.block_lt_of_cell? w _ hx340_3)).trans hx340_3
       replace p340 := eq_true p340
       replace q340 := eq_true q340
       go_wp2
       repeat (go_quiet (fail); try go_wp2)
       go_ret
       exact ⟨by first | rfl | (simp [errW_none, errW_some] <;> rfl) | (simp [*, errW_none, errW_some] <;> rfl), by repeat (first | (with_reducible first | exact HB.out | apply below_alloc | apply pw_below_drewN | apply below_drew1 | refine below_set ?_ GE339.out) | exact HB.out)⟩
      ·
       rw [if_neg c7] at H
       have c7b0 : (a1_0 == ((rd_T26 l0 x8_1).f0) && (a1_1 == ((rd_T26 l0 x8_1).f1) && (a1_2 == ((rd_T26 l0 x8_1).f2) && (a1_3 == ((rd_T26 l0 x8_1).f3))))) = false := by simpa using c7
       (try (have c7b1 : decide (a1_0 = ((rd_T26 l0 x8_1).f0) && (a1_1 == ((rd_T26 l0 x8_1).f1) && (a1_2 == ((rd_T26 l0 x8_1).f2) && (a1_3 == ((rd_T26 l0 x8_1).f3))))) = false := by simpa using c7))
       (try (have c7b2 : (a1_0 == ((rd_T26 l0 x8_1).f0) && (a1_1 == ((rd_T26 l0 x8_1).f1) && (a1_2 == ((rd_T26 l0 x8_1).f2) && (a1_3 == ((rd_T26 l0 x8_1).f3))))) = false := by simpa using c7))
       (try (have c7b3 : ¬ (a1_0 = ((rd_T26 l0 x8_1).f0) && (a1_1 == ((rd_T26 l0 x8_1).f1) && (a1_2 == ((rd_T26 l0 x8_1).f2) && (a1_3 == ((rd_T26 l0 x8_1).f3))))) := by simpa using c7))
       clear c7
       have H' := Aside0.mk H
       clear H
       have hcz9_0 : wr.cell? ⟨gb339, 0, none⟩ = some (.int .i64 a1_0) := (blk_cell BK339.out 0).trans rfl
       have hcz9_1 : wr.cell? ⟨gb339, 1, none⟩ = some (.int .i64 a1_1) := (blk_cell BK339.out 1).trans rfl
       have hcz9_2 : wr.cell? ⟨gb339, 2, none⟩ = some (.int .i64 a1_2) := (blk_cell BK339.out 2).trans rfl
       have hcz9_3 : wr.cell? ⟨gb339, 3, none⟩ = some (.int .i64 a1_3) := (blk_cell BK339.out 3).trans rfl
       have hfz9_0 := blk_frozen BK339.out 0
       have hfz9_1 := blk_frozen BK339.out 1
       have hfz9_2 := blk_frozen BK339.out 2
       have hfz9_3 := blk_frozen BK339.out 3
       have p340 : 0 ≤ (x8_1 : Int) := of_decide_eq_true (by first | (with_reducible assumption) | assumption)
       have q340 : x8_1 < (l0.length : Int) := of_decide_eq_true (by first | (with_reducible assumption) | assumption)
       obtain ⟨ad340, e340, hx340_0, hx340_1, hx340_2, hx340_3⟩ := at_T26 HR0.out x8_1 p340 q340
       cases e340
       replace hx340_0 := (HB.out.cell (World.block_lt_of_cell? w _ hx340_0)).trans hx340_0
       replace hx340_1 := (HB.out.cell (World.block_lt_of_cell? w _ hx340_1)).trans hx340_1
       replace hx340_2 := (HB.out.cell (World.block_lt_of_cell? w _ hx340_2)).trans hx340_2
       replace hx340_3 := (HB.out.cell (World.block_lt_of_cell? w _ hx340_3)).trans hx340_3
       replace p340 := eq_true p340
       replace q340 := eq_true q340
       go_wp2
       repeat (go_quiet (fail); try go_wp2)
       go_roundg k1
       case measure => have := HK1.out; omega
       case rel => exact ⟨(wrap64 (x8_1 + 1)), (by first | rfl | (simp; done) | (simp [*]; done)), H', ⟨by have := HK1.out; omega⟩, ⟨by (with_reducible repeat (first | refine blk_drewN ?_ _ | refine blk_drew ?_ | refine blk_alloc ?_ _)); exact BK339.out⟩, ⟨by repeat (first | (with_reducible first | exact HB.out | apply below_alloc | apply pw_below_drewN | apply below_drew1 | refine below_set ?_ GE339.out) | exact HB.out)⟩⟩
     ·
      rw [if_neg c6] at H
      exact absurd H (by simp)
    ·
     rw [if_neg c5] at H
     exact absurd H (by simp)
   ·
    rw [if_neg c4] at H
    have c4b0 : decide (x8_1 < (l0.length : Int)) = false := decide_eq_false c4
    clear c4
    obtain rfl := Option.some.inj H
    go_wp2
    repeat (go_quiet (fail); try go_wp2)
    go_ret
    exact ⟨by first | rfl | (simp [errW_none, errW_some] <;> rfl) | (simp [*, errW_none, errW_some] <;> rfl), by repeat (first | (with_reducible first | exact HB.out | apply below_alloc | apply pw_below_drewN | apply below_drew1 | refine below_set ?_ GE339.out) | exact HB.out)⟩
end Go.Proofs.Ytbhlmeghbfmgiaa.F

namespace Go.Proofs.Ytbhlmeghbfmgiaa.F
open Go.RowKit Go.Proofs.YtbhlmeghbfmgiaaW.PrintWords Go.Proofs.YtbhlmeghbfmgiaaW.PrintLast Go.Proofs.YtbhlmeghbfmgiaaW.PrintMore
attribute [local go_sem] max2_int min2_int max_two min_two max_three min_three max_four min_four
set_option linter.unusedVariables false
set_option linter.unusedSimpArgs false
set_option maxHeartbeats 8000000 in
set_option maxRecDepth 100000 in
theorem vo_pred (a1 : Int) (gb : Nat) (x : S26) (w : World) (hbox : w.heap[gb]? = some (.cells #[.int .i64 a1] 3 (0, 0))) :
  Calls Try.prog 93 #[.agg #[.int .i64 x.f0, .int .i64 x.f1, .int .i64 x.f2, .int .i64 x.f3], .pointer (some ⟨gb, 0, none⟩)] w fun e w' => e = .returned (.bool (x.f3 != a1)) ∧ Below w.heap.size w w' := by
 have hc : w.cell? ⟨gb, 0, none⟩ = some (.int .i64 a1) := (blk_cell hbox 0).trans rfl
 have hlt : gb < w.heap.size := blk_lt hbox
 have hne : gb ≠ w.heap.size := by omega
 clear hbox
 go_enter Try.func93, Try.ntmps93
 go_wp2
 all_goals (go_ret; exact ⟨by simp_all, (Below.refl _ w).alloc (Nat.le_refl _) _⟩)
def notV (a1 : Int) (x : S26) : Bool := x.f3 != a1
def voIdx (a1 : Int) (l : List S26) : Int := if l.findIdx (notV a1) < l.length then ((l.findIdx (notV a1) : Nat) : Int) else -1
theorem rdV (l : List S26) (i : Int) (h0 : 0 ≤ i) (h1 : i.toNat < l.length) : rd_T26 l i = l[i.toNat] := by
 unfold rd_T26
 rw [List.getD_eq_getElem?_getD, List.getElem?_eq_getElem h1]
 rfl
set_option maxHeartbeats 8000000 in
set_option maxRecDepth 100000 in
theorem vo_index (a1 : Int) (gb : Nat) (A : Option Addr) (c : Nat) (l : List S26) (w : World) (hC : Kd.C k26 w A l.length l) (hbig : l.length ≤ 9223372036854775807) (hbox : w.heap[gb]? = some (.cells #[.int .i64 a1] 3 (0, 0))) :
  Calls Try.prog 79 #[.slice A l.length c, .func (.func 93) #[] #[.pointer (some ⟨gb, 0, none⟩)]] w fun e w' => e = .returned (.int .i64 (voIdx a1 l)) ∧ Below w.heap.size w w' := by
 have eg : ∀ args w, (callFunc 93 args).run Try.prog w = .ok (.enter 93 args) w := enters_of Try.func93 (by kernel_rfl) rfl
 have HC := Aside0.mk hC
 have HX := Aside0.mk hbox
 clear hC hbox
 have HB := Aside0.mk (Below.refl w.heap.size w)
 go_enter Try.func79, Try.ntmps79
 go_wp2
 go_loopg [5, 8] l.length (fun gg _ s8 wr => ∃ i : Int, s8 = .int .i64 i ∧ Aside0 (0 ≤ i ∧ i ≤ l.length ∧ l.length - i.toNat ≤ gg) ∧ Aside0 (Below w.heap.size w wr) ∧ Aside0 (∀ j (h : j < l.length), j < i.toNat → notV a1 l[j] = false))
 case atStart => exact ⟨0, by first | rfl | simp, ⟨by omega, by omega, by omega⟩, HB, ⟨fun j h h' => absurd h' (by simp)⟩⟩
 case round =>
  clear HB
  obtain ⟨i, rfl, HI, HB, HN⟩ := hrel
  obtain ⟨h0, h1, hg⟩ := HI.out
  clear HI
  by_cases hlt : i < (l.length : Int)
  ·
   have hltn : i.toNat < l.length := by omega
   have hb0 : decide (i < (l.length : Int)) = true := decide_eq_true hlt
   obtain ⟨ad, e, hx0, hx1, hx2, hx3⟩ := at_T26 (Kd.C_below HC.out HB.out) i h0 hlt
   cases e
   have HG := Aside0.mk (And.intro h0 (And.intro h1 hg))
   have HL := Aside0.mk (And.intro hlt hltn)
   replace h0 := eq_true h0
   replace hlt := eq_true hlt
   clear h1 hg hltn
   have hbx := blk_below HX.out HB.out
   have hcall := vo_pred a1 gb (rd_T26 l i) wr hbx
   clear hbx
   generalize hy : rd_T26 l i = y at hcall hx0 hx1 hx2 hx3
   have HY := Aside0.mk hy
   clear hy
   cases hq : (y.f3 != a1) with
   | true =>
    rw [hq] at hcall
    go_wp2_with (go_at_fn 93; refine hcall.mono ?_; rintro e w' ⟨rfl, hb'⟩)
    go_ret
    refine ⟨?_, below_step HB.out hb'⟩
    have hltn := HL.out.2
    have e1 : l.findIdx (notV a1) = i.toNat := by
     rw [List.findIdx_eq hltn]
     refine ⟨?_, fun j hj => HN.out j (by omega) hj⟩
     rw [← rdV l i HG.out.1 hltn, HY.out]
     exact hq
    have := HG.out.1
    unfold voIdx
    rw [e1, if_pos hltn, Int.toNat_of_nonneg HG.out.1]
    rfl
   | false =>
    rw [hq] at hcall
    go_wp2_with (go_at_fn 93; refine hcall.mono ?_; rintro e w' ⟨rfl, hb'⟩)
    go_roundg (l.length - (i + 1).toNat)
    case measure => have := HG.out; have := HL.out; omega
    case rel =>
     have g := HG.out
     have g2 := HL.out
     have ew : wrap64 (i + 1) = i + 1 := by unfold wrap64; omega
     refine ⟨wrap64 (i + 1), (by first | rfl | (simp; done) | (simp [*]; done)), ⟨by omega, by omega, by omega⟩, ⟨below_step HB.out hb'⟩, ⟨fun j h hj => ?_⟩⟩
     rw [ew] at hj
     by_cases e : j = i.toNat
     ·
      subst e
      rw [← rdV l i g.1 h, HY.out]
      exact hq
     ·
      exact HN.out j h (by omega)
  ·
   have hb0 : decide (i < (l.length : Int)) = false := decide_eq_false hlt
   have hi : i.toNat = l.length := by omega
   clear hg h0 h1
   go_wp2
   go_ret
   refine ⟨?_, HB.out⟩
   have e1 : l.findIdx (notV a1) = l.length := by
    rw [List.findIdx_eq_length]
    intro x hx
    obtain ⟨j, hj, rfl⟩ := List.getElem_of_mem hx
    exact HN.out j hj (by omega)
   unfold voIdx
   rw [e1, if_neg (by omega)]
   rfl
theorem setCells_app (go : Nat) : ∀ (us bs : List Value) (o : Nat) (w : World), w.setCells go o (us ++ bs) = (w.setCells go o us).setCells go (o + us.length) bs
 | [], bs, o, w => rfl
 | a :: us, bs, o, w => by
  show (w.setCell ⟨go, o, none⟩ a).setCells go (o + 1) (us ++ bs) = ((w.setCell ⟨go, o, none⟩ a).setCells go (o + 1) us).setCells go (o + (a :: us).length) bs
  rw [setCells_app go us bs (o + 1), List.length_cons, show o + 1 + us.length = o + (us.length + 1) by omega]
theorem R_clear4 {base go cap n : Nat} : ∀ (m i : Nat) (W : World) (x : List S26), i + m = n → Kd.R k26 26 W base (fun _ => True) (.slice (some ⟨go, 0, none⟩) n cap) x →
  Kd.R k26 26 (W.setCells go (i * 4) (List.replicate (m * 4) (.int .i64 0))) base (fun _ => True) (.slice (some ⟨go, 0, none⟩) n cap) (x.take i ++ List.replicate m z26)
 | 0, i, W, x, hi, h => by
  have hx := (Kd.R_reads' h).1
  have e : x.take i ++ List.replicate 0 z26 = x := by rw [List.replicate_zero, List.append_nil, List.take_of_length_le (by omega)]
  rw [e]
  simpa [World.setCells] using h
 | m + 1, i, W, x, hi, h => by
  have hx := (Kd.R_reads' h).1
  have e4 : List.replicate ((m + 1) * 4) (Value.int .i64 0) = [.int .i64 0, .int .i64 0, .int .i64 0, .int .i64 0] ++ List.replicate (m * 4) (.int .i64 0) := by
   rw [show (m + 1) * 4 = m * 4 + 1 + 1 + 1 + 1 by omega]
   simp [List.replicate_succ]
  rw [e4, setCells_app]
  obtain ⟨ce, hcl, hM, hcc, hfr⟩ := Kd.R_elem h z26 (i : Int) (by omega) (by omega)
  have HP := Kd.R_seg (okp := fun _ => False) h (i : Int) (by omega) (by omega) (seg := [.int .i64 0, .int .i64 0, .int .i64 0, .int .i64 0]) (j := 0) hcl hcc (show 4 ≤ 4 from by decide) (x' := z26) (by
   have e5 : ce.drop (0 + [Value.int .i64 0, .int .i64 0, .int .i64 0, .int .i64 0].length) = [] := List.drop_of_length_le (by rw [hcl]; exact Nat.le_refl _)
   rw [e5]
   exact k26_mkM W base (fun _ => False) z26) (fun _ hk => False.elim hk)
  have H1 := HP.1
  simp only [Int.toNat_natCast, Nat.add_zero] at H1
  have H2 := R_clear4 m (i + 1) _ (x.set i z26) (by omega) H1
  have e6 : (x.set i z26).take (i + 1) ++ List.replicate m z26 = x.take i ++ List.replicate (m + 1) z26 := by
   rw [List.replicate_succ, List.take_succ_eq_append_getElem (by simp; omega)]
   simp [List.take_set_of_le]
  rw [e6, show (i + 1) * 4 = i * 4 + 4 by omega] at H2
  exact H2
set_option maxRecDepth 100000 in
theorem run_clear4 (W : World) (ty go off m cap : Nat) (hm : 0 < m) (hc : ∀ j, j < m * 4 → (W.cell? ⟨go, off + j, none⟩).isSome = true) (hf : ∀ j, j < m * 4 → W.frozen? ⟨go, off + j, none⟩ = false) :
  (Builtin.clear_ #[24] ty #[.slice (some ⟨go, off, none⟩) m cap]).run Try.prog W = .ok (.tuple #[]) (W.setCells go off (List.replicate (m * 4) (.int .i64 0))) := by
 have hzc : (Builtin.zeroCells (Value.agg #[.int .i64 0, .int .i64 0, .int .i64 0, .int .i64 0]).cells m).toList = List.replicate (m * 4) (Value.int .i64 0) := by
  have e : (Value.agg #[.int .i64 0, .int .i64 0, .int .i64 0, .int .i64 0]).cells = #[.int .i64 0, .int .i64 0, .int .i64 0, .int .i64 0] := rfl
  rw [e]
  apply List.ext_getElem
  ·
   simp [Builtin.zeroCells]
  ·
   intro i h1 h2
   have h4 : i % 4 < 4 := Nat.mod_lt _ (by decide)
   simp only [Builtin.zeroCells, Array.toList_map, List.getElem_map, List.getElem_replicate]
   simp only [Array.getElem_toList, Array.getElem_range]
   show (#[Value.int .i64 0, .int .i64 0, .int .i64 0, .int .i64 0])[i % 4]! = _
   generalize i % 4 = q at h4
   match q, h4 with
   | 0, _ => rfl
   | 1, _ => rfl
   | 2, _ => rfl
   | 3, _ => rfl
 have hst := run_storeCells_cells (P := Try.prog) go off (List.replicate (m * 4) (.int .i64 0)) 0 W (by simpa using hc) (by simpa using hf) (by intro v hv'; rw [List.eq_of_mem_replicate hv']; rfl)
 simp only [Nat.add_zero] at hst
 obtain ⟨m, rfl⟩ : ∃ k, m = k + 1 := ⟨m - 1, by omega⟩
 simp [Builtin.clear_, run_underlying Try.underlying24, Try.zeroValue26, hzc, hst]
structure VoInv (a1 : Int) (l x : List S26) (i j : Nat) : Prop where
 len : x.length = l.length
 lt : i < j
 le : j ≤ l.length
 kept : x.take i = (l.take j).filter (fun y => !notV a1 y)
 rest : x.drop j = l.drop j
theorem VoInv.start {a1 : Int} {l : List S26} (h : l.findIdx (notV a1) < l.length) : VoInv a1 l l (l.findIdx (notV a1)) (l.findIdx (notV a1) + 1) := by
 have hn : ∀ y ∈ l.take (l.findIdx (notV a1)), notV a1 y = false := by
  intro y hy
  obtain ⟨j, hj, rfl⟩ := List.getElem_of_mem hy
  rw [List.length_take] at hj
  rw [List.getElem_take]
  exact List.not_of_lt_findIdx (by omega)
 refine ⟨rfl, Nat.lt_succ_self _, h, ?_, rfl⟩
 rw [List.take_succ_eq_append_getElem h, List.filter_append]
 have e1 : (l.take (l.findIdx (notV a1))).filter (fun y => !notV a1 y) = l.take (l.findIdx (notV a1)) := by
  rw [List.filter_eq_self]
  intro y hy
  simp [hn y hy]
 have e2 : notV a1 l[l.findIdx (notV a1)] = true := List.findIdx_getElem
 rw [e1]
 simp [e2]
theorem VoInv.read {a1 : Int} {l x : List S26} {i j : Nat} (h : VoInv a1 l x i j) (hj : j < l.length) : x[j]'(by have := h.len; omega) = l[j] := by
 have hx : j < x.length := by have := h.len; omega
 have e := h.rest
 rw [List.drop_eq_getElem_cons hx, List.drop_eq_getElem_cons hj] at e
 exact (List.cons.inj e).1
theorem VoInv.keep {a1 : Int} {l x : List S26} {i j : Nat} (h : VoInv a1 l x i j) (hj : j < l.length) (hq : notV a1 l[j] = false) : VoInv a1 l (x.set i l[j]) (i + 1) (j + 1) := by
 have hx : j < x.length := by have := h.len; omega
 have hlt := h.lt
 refine ⟨by simp [h.len], by omega, hj, ?_, ?_⟩
 ·
  rw [List.take_succ_eq_append_getElem (by simp; omega), List.take_succ_eq_append_getElem hj, List.filter_append, ← h.kept]
  simp [hq, List.take_set_of_le]
 ·
  have e := h.rest
  rw [List.drop_eq_getElem_cons hx, List.drop_eq_getElem_cons hj] at e
  rw [List.drop_set_of_lt (by omega)]
  exact (List.cons.inj e).2
theorem VoInv.skip {a1 : Int} {l x : List S26} {i j : Nat} (h : VoInv a1 l x i j) (hj : j < l.length) (hq : notV a1 l[j] = true) : VoInv a1 l x i (j + 1) := by
 have hx : j < x.length := by have := h.len; omega
 have hlt := h.lt
 refine ⟨h.len, by omega, hj, ?_, ?_⟩
 ·
  rw [h.kept, List.take_succ_eq_append_getElem hj, List.filter_append]
  simp [hq]
 ·
  have e := h.rest
  rw [List.drop_eq_getElem_cons hx, List.drop_eq_getElem_cons hj] at e
  exact (List.cons.inj e).2
theorem VoInv.done {a1 : Int} {l x : List S26} {i : Nat} (h : VoInv a1 l x i l.length) : x.take i = l.filter (fun y => !notV a1 y) := by
 have := h.kept
 rwa [List.take_length] at this
theorem vo_none {a1 : Int} {l : List S26} (h : ¬ l.findIdx (notV a1) < l.length) : l.filter (fun y => !notV a1 y) = l := by
 rw [List.filter_eq_self]
 intro y hy
 have h1 : l.findIdx (notV a1) = l.length := Nat.le_antisymm List.findIdx_le_length (by omega)
 rw [List.findIdx_eq_length] at h1
 simp [h1 y hy]
theorem below_cells {B go : Nat} {w : World} (hg : B ≤ go) : ∀ (vs : List Value) (o : Nat) (W : World), Below B w W → Below B w (W.setCells go o vs)
 | [], _, _, h => h
 | v :: vs, o, W, h => below_cells hg vs (o + 1) _ (h.setCell hg v)
theorem R_some4 {base go cap n : Nat} {W : World} {x : List S26} (h : Kd.R k26 26 W base (fun _ => True) (.slice (some ⟨go, 0, none⟩) n cap) x) (q : Nat) (hq : q < n * 4) : (W.cell? ⟨go, q, none⟩).isSome = true ∧ W.frozen? ⟨go, q, none⟩ = false := by
 obtain ⟨ce, hcl, hM, hcc, hfr⟩ := Kd.R_elem h z26 ((q / 4 : Nat) : Int) (by omega) (by omega)
 rw [Int.toNat_natCast] at hcc hfr
 have hl : q % 4 < ce.length := by rw [hcl]; exact Nat.mod_lt _ (by decide)
 have e : q / 4 * k26.sz + q % 4 = q := by show q / 4 * 4 + q % 4 = q; omega
 have h1 := hcc (q % 4) _ (List.getElem?_eq_getElem hl)
 have h2 := hfr (q % 4)
 rw [e] at h1 h2
 rw [h1]
 exact ⟨rfl, h2⟩
set_option maxHeartbeats 8000000 in
set_option maxRecDepth 100000 in
theorem vo_delete (a1 : Int) (gb base : Nat) (v : Value) (l : List S26) (w : World) (HR : Kd.R k26 26 w base (fun _ => True) v l) (hbox : w.heap[gb]? = some (.cells #[.int .i64 a1] 3 (0, 0))) (hbig : l.length ≤ 4398046511104) (hbs : base ≤ w.heap.size) :
  Calls Try.prog 92 #[v, .func (.func 93) #[] #[.pointer (some ⟨gb, 0, none⟩)]] w fun e w' => ∃ v0_ : Value, e = .returned v0_ ∧ Kd.R k26 26 w' base (fun _ => True) v0_ (l.filter (fun y => !notV a1 y)) ∧ Below base w w' := by
 obtain ⟨A, c, rfl⟩ := Kd.R_slice HR
 have hC := (Kd.R_reads' HR).2.2
 have hcap := (Kd.R_reads' HR).2.1
 have hIF := vo_index a1 gb A c l w hC (by omega) hbox
 have eg : ∀ args w, (callFunc 93 args).run Try.prog w = .ok (.enter 93 args) w := enters_of Try.func93 (by kernel_rfl) rfl
 by_cases hk : l.findIdx (notV a1) < l.length
 ·
  obtain ⟨k0, hk0⟩ : ∃ k0, k0 = l.findIdx (notV a1) := ⟨_, rfl⟩
  have hinv := VoInv.start hk
  have e1 : voIdx a1 l = (k0 : Int) := by unfold voIdx; rw [if_pos hk, hk0]
  rw [← hk0] at hinv hk
  rw [e1] at hIF
  obtain ⟨go, co, eo, hgb, hgl, cl, hcl⟩ := Kd.R_form HR (by omega)
  cases eo
  have hne0 := Kd.R_ne HR hbox (by decide)
  have hne : gb ≠ go := by intro e; exact hne0 (by rw [e]; rfl)
  have HO := Aside0.mk HR
  have HX := Aside0.mk hbox
  have HI := Aside0.mk hinv
  have HK := Aside0.mk (And.intro hk hcap)
  have NE := Aside0.mk hne
  have GB := Aside0.mk hgb
  have BS := Aside0.mk hbs
  have hm1 : ((k0 : Int) == -1) = false := beq_eq_false_iff_ne.2 (by omega)
  clear HR hbox hinv hC hcl hgl hk hcap hne hne0 hgb hbs e1 hk0
  go_enter Try.func92, Try.ntmps92
  go_wp2_with (go_at_call 79; refine hIF.mono ?_; rintro e w1 ⟨rfl, hb1⟩)
  have HB := Aside0.mk hb1
  clear hb1
  go_loopg [5, 6, 7] l.length (fun gg s5 s6 _ wr => ∃ (x : List S26) (i j : Int), s5 = .int .i64 i ∧ s6 = .int .i64 j ∧ Aside0 (0 ≤ i ∧ 0 ≤ j ∧ l.length - j.toNat ≤ gg) ∧ Aside0 (VoInv a1 l x i.toNat j.toNat) ∧ Aside0 (Kd.R k26 26 wr base (fun _ => True) (.slice (some ⟨go, 0, none⟩) l.length c) x) ∧ Aside0 (wr.heap[gb]? = some (.cells #[.int .i64 a1] 3 (0, 0))) ∧ Aside0 (Below base w wr) ∧ Aside0 (base ≤ wr.heap.size))
  case atStart =>
   have ew : wrap64 ((k0 : Int) + 1) = (k0 : Int) + 1 := by have := HK.out; unfold wrap64; omega
   refine ⟨l, (k0 : Int), wrap64 ((k0 : Int) + 1), rfl, (by first | rfl | (simp; done) | (simp [*]; done)), ⟨by omega, by omega, by omega⟩, ⟨?_⟩, ⟨Kd.R_below HO.out HB.out⟩, ⟨blk_below HX.out HB.out⟩, ⟨HB.out.mono BS.out⟩, ⟨Nat.le_trans BS.out (below_size HB.out)⟩⟩
   have := HI.out
   rw [ew, show ((k0 : Int) + 1).toNat = k0 + 1 by omega, Int.toNat_natCast]
   exact this
  case round =>
   clear HB HO HX HI hIF hm1
   obtain ⟨x, i, j, rfl, rfl, HG, HI, HO, HX, HB, BR⟩ := hrel
   have hxl := HI.out.len
   by_cases hlt : j < (l.length : Int)
   ·
    have hjn : j.toNat < l.length := by have := HG.out; omega
    have hb0 : decide (j < (l.length : Int)) = true := decide_eq_true hlt
    have hrd := HI.out.read hjn
    obtain ⟨ad, e, hx0, hx1, hx2, hx3⟩ := at_T26 (Kd.R_reads' HO.out).2.2 j HG.out.2.1 (by omega)
    cases e
    (first | simp only [add_plain] at hx0 | skip)
    (first | simp only [add_plain] at hx1 | skip)
    (first | simp only [add_plain] at hx2 | skip)
    (first | simp only [add_plain] at hx3 | skip)
    have hri : 0 ≤ i ∧ i < (l.length : Int) := by have := HI.out.lt; have := HI.out.le; have := HG.out; omega
    have hpi := eq_true hri.1
    have hqi := eq_true hri.2
    have hpj := eq_true HG.out.2.1
    have hqj := eq_true hlt
    have hbI : decide (0 ≤ i) = true := decide_eq_true hri.1
    have hbI2 : decide (i < (l.length : Int)) = true := decide_eq_true hri.2
    rw [rdV x j HG.out.2.1 (by omega), hrd] at hx0 hx1 hx2 hx3
    have HL := Aside0.mk (And.intro hlt hjn)
    have HRI := Aside0.mk hri
    clear hlt hri hrd hxl
    obtain ⟨y, hy⟩ : ∃ y, y = l[j.toNat] := ⟨_, rfl⟩
    rw [← hy] at hx0 hx1 hx2 hx3
    have HY : Aside0 (∃ h : j.toNat < l.length, y = l[j.toNat]) := ⟨⟨hjn, hy⟩⟩
    clear hy hjn
    have HW := Aside0.mk (Below.refl wr.heap.size wr)
    cases hq : (y.f3 != a1) with
    | true =>
     go_wp2_with (first | ((with_reducible refine gate_dst (N := 7) rfl ?_); refine box_event ?hg (N := 7) ?hd (cs := #[.int .i64 0, .int .i64 0, .int .i64 0, .int .i64 0]) (t := 26) ?hr ?_; (case hd => rfl); (case hg => rfl); (case hr => first | (go_simp; done) | (go_simp; rfl)); intro gv hg w3 hbv hb; have GV := Aside0.mk ((by rw [hg]; exact (below_size (by repeat (first | (with_reducible first | exact HW.out | apply below_alloc | apply pw_below_drewN | apply below_drew1) | exact HW.out))) : wr.heap.size ≤ gv)); have n0_ := Aside0.mk (below_step (by repeat (first | (with_reducible first | exact HW.out | apply below_alloc | apply pw_below_drewN | apply below_drew1) | exact HW.out)) hb); clear HW; have HW := n0_; clear n0_; have BV := Aside0.mk hbv; have hcz0 : w3.cell? ⟨gv, 0, none⟩ = some (.int .i64 0) := (blk_cell hbv 0).trans rfl; have hcz1 : w3.cell? ⟨gv, 1, none⟩ = some (.int .i64 0) := (blk_cell hbv 1).trans rfl; have hcz2 : w3.cell? ⟨gv, 2, none⟩ = some (.int .i64 0) := (blk_cell hbv 2).trans rfl; have hcz3 : w3.cell? ⟨gv, 3, none⟩ = some (.int .i64 0) := (blk_cell hbv 3).trans rfl; have hfz0 := blk_frozen hbv 0; have hfz1 := blk_frozen hbv 1; have hfz2 := blk_frozen hbv 2; have hfz3 := blk_frozen hbv 3; clear hb hg hbv) | ((with_reducible refine gate_store (t := 26) (p := 7) rfl ?_); refine store_event (t := 26) (p := 7) (v := ?vo) (w1 := ((((w3.setCell ⟨gv, 0, none⟩ (.int .i64 y.f0)).setCell ⟨gv, 1, none⟩ (.int .i64 y.f1)).setCell ⟨gv, 2, none⟩ (.int .i64 y.f2)).setCell ⟨gv, 3, none⟩ (.int .i64 y.f3))) ?hg ?ho ?hn ?hr ?_; (case ho => rfl); (case hg => rfl); (case hn => rfl); (case hr => first | (go_simp; done) | (go_simp; rfl)); intro w4 hw; have n0_ : Aside0 (Below wr.heap.size wr w4) := ⟨by rw [hw]; exact below_set (below_set (below_set (below_set HW.out GV.out) GV.out) GV.out) GV.out⟩; have n1_ : Aside0 (w4.heap[gv]? = some (.cells #[.int .i64 y.f0, .int .i64 y.f1, .int .i64 y.f2, .int .i64 y.f3] 26 (0, 0))) := ⟨by rw [hw]; exact blk_put (blk_put (blk_put (blk_put BV.out 0 _ rfl) 1 _ rfl) 2 _ rfl) 3 _ rfl⟩; clear HW; clear BV; have HW := n0_; have BV := n1_; clear n0_ n1_; clear hcz0 hcz1 hcz2 hcz3 hfz0 hfz1 hfz2 hfz3 hw; have hcv0 : w4.cell? ⟨gv, 0, none⟩ = some (.int .i64 y.f0) := (blk_cell BV.out 0).trans rfl; have hcv1 : w4.cell? ⟨gv, 1, none⟩ = some (.int .i64 y.f1) := (blk_cell BV.out 1).trans rfl; have hcv2 : w4.cell? ⟨gv, 2, none⟩ = some (.int .i64 y.f2) := (blk_cell BV.out 2).trans rfl; have hcv3 : w4.cell? ⟨gv, 3, none⟩ = some (.int .i64 y.f3) := (blk_cell BV.out 3).trans rfl) | (go_at_fn 93; (refine (vo_pred a1 gb y _ ?hb).mono ?_); (case hb => (with_reducible repeat (first | refine blk_drewN ?_ _ | refine blk_drew ?_ | refine blk_alloc ?_ _)); exact blk_below HX.out HW.out); (rw [hq]); rintro e w5 ⟨rfl, hb⟩; have n0_ := Aside0.mk (below_step (by repeat (first | (with_reducible first | exact HW.out | apply below_alloc | apply pw_below_drewN | apply below_drew1) | exact HW.out)) hb); have n1_ := Aside0.mk (blk_below (by (with_reducible repeat (first | refine blk_drewN ?_ _ | refine blk_drew ?_ | refine blk_alloc ?_ _)); exact BV.out) hb); clear HW; clear BV; have HW := n0_; have BV := n1_; clear n0_ n1_; clear hcv0 hcv1 hcv2 hcv3 hb))
     go_roundg (l.length - (j + 1).toNat)
     case measure => have := HG.out; have := HL.out; omega
     case rel =>
      have g := HG.out
      have g2 := HL.out
      have ew : wrap64 (j + 1) = j + 1 := by unfold wrap64; omega
      refine ⟨x, i, wrap64 (j + 1), (by first | rfl | (simp; done) | (simp [*]; done)), (by first | rfl | (simp; done) | (simp [*]; done)), ⟨by omega, by omega, by omega⟩, ⟨?_⟩, ⟨Kd.R_below HO.out (by repeat (first | (with_reducible first | exact HW.out | apply below_alloc | apply pw_below_drewN | apply below_drew1) | exact HW.out))⟩, ⟨blk_below HX.out (by repeat (first | (with_reducible first | exact HW.out | apply below_alloc | apply pw_below_drewN | apply below_drew1) | exact HW.out))⟩, ⟨below_then HB.out BR.out (by repeat (first | (with_reducible first | exact HW.out | apply below_alloc | apply pw_below_drewN | apply below_drew1) | exact HW.out))⟩, ⟨Nat.le_trans BR.out (below_size (by repeat (first | (with_reducible first | exact HW.out | apply below_alloc | apply pw_below_drewN | apply below_drew1) | exact HW.out)))⟩⟩
      rw [ew, show (j + 1).toNat = j.toNat + 1 by omega]
      obtain ⟨hj, hy⟩ := HY.out
      exact HI.out.skip hj (by rw [← hy]; exact hq)
    | false =>
     go_wp2_with (first | ((with_reducible refine gate_dst (N := 7) rfl ?_); refine box_event ?hg (N := 7) ?hd (cs := #[.int .i64 0, .int .i64 0, .int .i64 0, .int .i64 0]) (t := 26) ?hr ?_; (case hd => rfl); (case hg => rfl); (case hr => first | (go_simp; done) | (go_simp; rfl)); intro gv hg w3 hbv hb; have GV := Aside0.mk ((by rw [hg]; exact (below_size (by repeat (first | (with_reducible first | exact HW.out | apply below_alloc | apply pw_below_drewN | apply below_drew1) | exact HW.out))) : wr.heap.size ≤ gv)); have n0_ := Aside0.mk (below_step (by repeat (first | (with_reducible first | exact HW.out | apply below_alloc | apply pw_below_drewN | apply below_drew1) | exact HW.out)) hb); clear HW; have HW := n0_; clear n0_; have BV := Aside0.mk hbv; have hcz0 : w3.cell? ⟨gv, 0, none⟩ = some (.int .i64 0) := (blk_cell hbv 0).trans rfl; have hcz1 : w3.cell? ⟨gv, 1, none⟩ = some (.int .i64 0) := (blk_cell hbv 1).trans rfl; have hcz2 : w3.cell? ⟨gv, 2, none⟩ = some (.int .i64 0) := (blk_cell hbv 2).trans rfl; have hcz3 : w3.cell? ⟨gv, 3, none⟩ = some (.int .i64 0) := (blk_cell hbv 3).trans rfl; have hfz0 := blk_frozen hbv 0; have hfz1 := blk_frozen hbv 1; have hfz2 := blk_frozen hbv 2; have hfz3 := blk_frozen hbv 3; clear hb hg hbv) | ((with_reducible refine gate_store (t := 26) (p := 7) rfl ?_); refine store_event (t := 26) (p := 7) (v := ?vo) (w1 := ((((w3.setCell ⟨gv, 0, none⟩ (.int .i64 y.f0)).setCell ⟨gv, 1, none⟩ (.int .i64 y.f1)).setCell ⟨gv, 2, none⟩ (.int .i64 y.f2)).setCell ⟨gv, 3, none⟩ (.int .i64 y.f3))) ?hg ?ho ?hn ?hr ?_; (case ho => rfl); (case hg => rfl); (case hn => rfl); (case hr => first | (go_simp; done) | (go_simp; rfl)); intro w4 hw; have n0_ : Aside0 (Below wr.heap.size wr w4) := ⟨by rw [hw]; exact below_set (below_set (below_set (below_set HW.out GV.out) GV.out) GV.out) GV.out⟩; have n1_ : Aside0 (w4.heap[gv]? = some (.cells #[.int .i64 y.f0, .int .i64 y.f1, .int .i64 y.f2, .int .i64 y.f3] 26 (0, 0))) := ⟨by rw [hw]; exact blk_put (blk_put (blk_put (blk_put BV.out 0 _ rfl) 1 _ rfl) 2 _ rfl) 3 _ rfl⟩; clear HW; clear BV; have HW := n0_; have BV := n1_; clear n0_ n1_; clear hcz0 hcz1 hcz2 hcz3 hfz0 hfz1 hfz2 hfz3 hw; have hcv0 : w4.cell? ⟨gv, 0, none⟩ = some (.int .i64 y.f0) := (blk_cell BV.out 0).trans rfl; have hcv1 : w4.cell? ⟨gv, 1, none⟩ = some (.int .i64 y.f1) := (blk_cell BV.out 1).trans rfl; have hcv2 : w4.cell? ⟨gv, 2, none⟩ = some (.int .i64 y.f2) := (blk_cell BV.out 2).trans rfl; have hcv3 : w4.cell? ⟨gv, 3, none⟩ = some (.int .i64 y.f3) := (blk_cell BV.out 3).trans rfl) | (go_at_fn 93; (refine (vo_pred a1 gb y _ ?hb).mono ?_); (case hb => (with_reducible repeat (first | refine blk_drewN ?_ _ | refine blk_drew ?_ | refine blk_alloc ?_ _)); exact blk_below HX.out HW.out); (rw [hq]); rintro e w5 ⟨rfl, hb⟩; have n0_ := Aside0.mk (below_step (by repeat (first | (with_reducible first | exact HW.out | apply below_alloc | apply pw_below_drewN | apply below_drew1) | exact HW.out)) hb); have n1_ := Aside0.mk (blk_below (by (with_reducible repeat (first | refine blk_drewN ?_ _ | refine blk_drew ?_ | refine blk_alloc ?_ _)); exact BV.out) hb); clear HW; clear BV; have HW := n0_; have BV := n1_; clear n0_ n1_; clear hcv0 hcv1 hcv2 hcv3 hb; have hcv0 : w5.cell? ⟨gv, 0, none⟩ = some (.int .i64 y.f0) := (blk_cell BV.out 0).trans rfl; have hcv1 : w5.cell? ⟨gv, 1, none⟩ = some (.int .i64 y.f1) := (blk_cell BV.out 1).trans rfl; have hcv2 : w5.cell? ⟨gv, 2, none⟩ = some (.int .i64 y.f2) := (blk_cell BV.out 2).trans rfl; have hcv3 : w5.cell? ⟨gv, 3, none⟩ = some (.int .i64 y.f3) := (blk_cell BV.out 3).trans rfl; have n2_ := Aside0.mk (Kd.R_below HO.out HW.out); clear HO; have HO := n2_; clear n2_; obtain ⟨ce, hclE, hME, hccE, hfrE⟩ := Kd.R_elem HO.out z26 i HRI.out.1 HRI.out.2; obtain rfl := k26_openM hME; have HP := Kd.R_seg (okp := fun _ => False) HO.out i HRI.out.1 HRI.out.2 (seg := [.int .i64 y.f0, .int .i64 y.f1, .int .i64 y.f2, .int .i64 y.f3]) (j := 0) hclE hccE (show 4 ≤ 4 from by decide) (x' := y) (k26_mkM _ _ _ y) (fun _ hk => False.elim hk); have hxe0 := hccE 0 _ rfl; have hxe1 := hccE 1 _ rfl; have hxe2 := hccE 2 _ rfl; have hxe3 := hccE 3 _ rfl; have hfe0 := hfrE 0; have hfe1 := hfrE 1; have hfe2 := hfrE 2; have hfe3 := hfrE 3; (try simp only [show (k26).sz = 4 from rfl, Nat.mul_one, Nat.add_zero] at hxe0 hxe1 hxe2 hxe3 hfe0 hfe1 hfe2 hfe3); clear hclE hccE hfrE hME))
     go_roundg (l.length - (j + 1).toNat)
     case measure => have := HG.out; have := HL.out; omega
     case rel =>
      have g := HG.out
      have g2 := HL.out
      have g3 := HRI.out
      have ew : wrap64 (j + 1) = j + 1 := by unfold wrap64; omega
      have ew2 : wrap64 (i + 1) = i + 1 := by unfold wrap64; omega
      refine ⟨x.set i.toNat y, wrap64 (i + 1), wrap64 (j + 1), (by first | rfl | (simp; done) | (simp [*]; done)), (by first | rfl | (simp; done) | (simp [*]; done)), ⟨by omega, by omega, by omega⟩, ⟨?_⟩, ⟨HP.1⟩, ⟨blk_far (blk_far (blk_far (blk_far (blk_below HX.out HW.out) NE.out _) NE.out _) NE.out _) NE.out _⟩, ⟨((((below_then HB.out BR.out HW.out).setCell GB.out _).setCell GB.out _).setCell GB.out _).setCell GB.out _⟩, ⟨Nat.le_trans BR.out (Nat.le_trans (below_size HW.out) (Nat.le_of_eq (setCells_same go [.int .i64 y.f0, .int .i64 y.f1, .int .i64 y.f2, .int .i64 y.f3] (i.toNat * 4) w5).2.2.2.symm))⟩⟩
      rw [ew, ew2, show (j + 1).toNat = j.toNat + 1 by omega, show (i + 1).toNat = i.toNat + 1 by omega]
      obtain ⟨hj, hy⟩ := HY.out
      have hq2 : notV a1 l[j.toNat] = false := by rw [← hy]; exact hq
      have := HI.out.keep hj hq2
      rw [← hy] at this
      exact this
   ·
    have hje : j.toNat = l.length := by have := HG.out; have := HI.out.le; omega
    have hI := HI.out
    rw [hje] at hI
    have hb0 : decide (j < (l.length : Int)) = false := decide_eq_false hlt
    obtain ⟨i, rfl⟩ := Int.eq_ofNat_of_zero_le HG.out.1
    rw [Int.toNat_natCast] at hI
    have hi : i < l.length := hI.lt
    have hil : i ≤ l.length := Nat.le_of_lt hi
    have hic : i ≤ c := by have := HK.out.2; omega
    have hne : ¬ c = i := by have := HK.out.2; omega
    have hcl : ∀ ty, (Builtin.clear_ #[24] ty #[.slice (some ⟨go, i * 4, none⟩) (l.length - i) (c - i)]).run Try.prog wr = .ok (.tuple #[]) (wr.setCells go (i * 4) (List.replicate ((l.length - i) * 4) (.int .i64 0))) :=
     fun ty => run_clear4 wr ty go (i * 4) (l.length - i) (c - i) (by omega) (fun q hq => (R_some4 HO.out (i * 4 + q) (by omega)).1) (fun q hq => (R_some4 HO.out (i * 4 + q) (by omega)).2)
    have HT := R_clear4 (l.length - i) i wr x (by omega) HO.out
    have HT2 := Kd.R_take (m := i) HT (by rw [List.length_append, List.length_take, List.length_replicate, hxl]; omega)
    have ex : (x.take i ++ List.replicate (l.length - i) z26).take i = l.filter (fun y => !notV a1 y) := by
     rw [List.take_append_of_le_length (by rw [List.length_take, hxl]; omega), List.take_take, Nat.min_self, hI.done]
    rw [ex] at HT2
    have HT3 := Aside0.mk HT2
    clear HT HT2 ex hI
    go_wp2
    go_ret
    exact ⟨_, rfl, HT3.out, below_cells GB.out _ _ _ HB.out⟩
 ·
  have e1 : voIdx a1 l = -1 := by unfold voIdx; rw [if_neg hk]
  rw [e1] at hIF
  have ef := vo_none hk
  have HO := Aside0.mk HR
  have BS := Aside0.mk hbs
  have hm1 : ((-1 : Int) == -1) = true := rfl
  clear HR hbox hC hcap hk e1 hbs
  go_enter Try.func92, Try.ntmps92
  go_wp2_with (go_at_call 79; refine hIF.mono ?_; rintro e w1 ⟨rfl, hb1⟩)
  go_ret
  refine ⟨_, rfl, ?_, hb1.mono BS.out⟩
  rw [ef]
  exact Kd.R_below HO.out hb1
def impl_VoiceOf.f (l0 : List S26) (a1 : Int) : Option (List S26) := if l0.length < 4398046511104 then some (l0.filter (fun y => !notV a1 y)) else none
set_option maxHeartbeats 8000000 in
set_option maxRecDepth 100000 in
theorem impl_VoiceOf.calls (A0 : Option Addr) (c0 : Nat) (l0 : List (S26)) (a1 : Int) (r : List (S26)) (w : World) (hr0 : Kd.C k26 w A0 l0.length l0) (hc0 : l0.length ≤ c0) (h : impl_VoiceOf.f l0 a1 = some r) :
  Calls Try.prog 21 #[.slice A0 l0.length c0, .int .i64 a1] w fun e w' => ∃ v0_ : Value, e = .returned (v0_) ∧ Kd.R k26 26 w' w.heap.size (fun _ => True) v0_ r ∧ Below w.heap.size w w' := by
 have HR0 := Aside0.mk hr0
 have HC0 := Aside0.mk hc0
 clear hr0 hc0
 have HW := Aside0.mk (Below.refl w.heap.size w)
 unfold impl_VoiceOf.f at h
 by_cases hl : l0.length < 4398046511104
 ·
  rw [if_pos hl] at h
  obtain rfl := Option.some.inj h
  have HL := Aside0.mk hl
  have hcl : impl_Event_83.f l0 = some l0 := by unfold impl_Event_83.f; simp only [Option.bind_some, List.length_nil, List.nil_append]; rw [if_pos (by omega)]
  have HCL := Aside0.mk hcl
  clear h hl hcl
  go_enter Try.func21, Try.ntmps21
  go_wp2_with (first
   | ((with_reducible refine gate_dst (N := 3) rfl ?_); refine box_event ?hg (N := 3) ?hd (cs := #[.int .i64 a1]) (t := 3) ?hr ?_; (case hd => rfl); (case hg => rfl); (case hr => first | (go_simp; done) | (go_simp; rfl)); intro gb hg w3 hbv hb; have n0_ := Aside0.mk (below_step (by repeat (first | (with_reducible first | exact HW.out | apply below_alloc | apply pw_below_drewN | apply below_drew1) | exact HW.out)) hb); clear HW; have HW := n0_; clear n0_; have BV := Aside0.mk hbv; clear hb hg hbv)
   | ((with_reducible refine gate_callee (f := 83) rfl ?_); refine goesL_ (some 6) rfl rfl Try.func83 (by kernel_rfl) rfl #[.slice A0 l0.length c0] rfl (by (try simp only [List.map_toArray, List.map_cons, List.map_nil]); first | done | rfl | (simp only [List.length_drop, List.length_take]; rfl)) ?_; (with_reducible refine (impl_Event_83.calls _ _ l0 l0 _ ?side1 ?side2 HCL.out).mono ?_); (case side1 => repeat (first | exact (Kd.C_below HR0.out HW.out) | (with_reducible refine Kd.C_alloc ?_ _) | (with_reducible refine Kd.C_drewN ?_ _) | (with_reducible refine Kd.C_drew ?_))); (case side2 => exact HC0.out); rintro e w5 ⟨v5, rfl, ho, hb⟩; refine ⟨_, rfl, ?_⟩; have n0_ := Aside0.mk (Kd.R_lower ho (below_size (by repeat (first | (with_reducible first | exact HW.out | apply below_alloc | apply pw_below_drewN | apply below_drew1) | exact HW.out)))); have n1_ := Aside0.mk (blk_below (by (with_reducible repeat (first | refine blk_drewN ?_ _ | refine blk_drew ?_ | refine blk_alloc ?_ _)); exact BV.out) hb); have n2_ := Aside0.mk (below_step (by repeat (first | (with_reducible first | exact HW.out | apply below_alloc | apply pw_below_drewN | apply below_drew1) | exact HW.out)) hb); clear HW; clear BV; have HO := n0_; have BV := n1_; have HW := n2_; clear n0_ n1_ n2_; clear hb ho)
   | (go_at_call 92; (refine (vo_delete a1 gb w.heap.size v5 l0 _ ?s1 ?s2 ?s3 ?s4).mono ?_); (case s1 => (with_reducible repeat (first | apply Kd.R_alloc | apply Kd.R_drewN | apply Kd.R_drew)); exact HO.out); (case s2 => (with_reducible repeat (first | refine blk_drewN ?_ _ | refine blk_drew ?_ | refine blk_alloc ?_ _)); exact BV.out); (case s3 => have := HL.out; omega); (case s4 => exact below_size (by repeat (first | (with_reducible first | exact HW.out | apply below_alloc | apply pw_below_drewN | apply below_drew1) | exact HW.out))); rintro e w7 ⟨v7, rfl, ho7, hb7⟩; have HO7 := Aside0.mk ho7; have HB7 := Aside0.mk (Below.trans (by repeat (first | (with_reducible first | exact HW.out | apply below_alloc | apply pw_below_drewN | apply below_drew1) | exact HW.out)) hb7); clear ho7 hb7))
  go_ret
  exact ⟨_, by first | rfl | (simp; done), by (with_reducible repeat (first | apply Kd.R_alloc | apply Kd.R_drewN | apply Kd.R_drew)); exact HO7.out, by repeat (first | (with_reducible first | exact HB7.out | apply below_alloc | apply pw_below_drewN | apply below_drew1) | exact HB7.out)⟩
 ·
  rw [if_neg hl] at h
  exact absurd h (by simp)
end Go.Proofs.Ytbhlmeghbfmgiaa.F

namespace Go.Proofs.Ytbhlmeghbfmgiaa.F
open Go.RowKit Go.Proofs.YtbhlmeghbfmgiaaW.PrintWords Go.Proofs.YtbhlmeghbfmgiaaW.PrintLast Go.Proofs.YtbhlmeghbfmgiaaW.PrintMore
attribute [local go_sem] max2_int min2_int max_two min_two max_three min_three max_four min_four
set_option linter.unusedVariables false
set_option linter.unusedSimpArgs false
def cells4 (y : S26) : List Value := [.int .i64 y.f0, .int .i64 y.f1, .int .i64 y.f2, .int .i64 y.f3]
theorem flat4_drop : ∀ (j : Nat) (x : List S26), (x.drop j).flatMap cells4 = (x.flatMap cells4).drop (j * 4)
 | 0, x => by simp
 | j + 1, [] => by simp
 | j + 1, y :: x => by
  rw [List.drop_succ_cons, flat4_drop j x, List.flatMap_cons, show (j + 1) * 4 = 4 + j * 4 by omega]
  rw [← List.drop_drop]
  rfl
theorem flat4_len : ∀ x : List S26, (x.flatMap cells4).length = x.length * 4
 | [] => rfl
 | y :: x => by rw [List.flatMap_cons, List.length_append, flat4_len x, List.length_cons, Nat.succ_mul, Nat.add_comm]; rfl
theorem flat4_get : ∀ (x : List S26) (q : Nat), (x.flatMap cells4)[q]? = (x[q / 4]?).bind (fun y => (cells4 y)[q % 4]?)
 | [], q => by simp
 | y :: x, q => by
  rw [List.flatMap_cons, List.getElem?_append]
  by_cases h : q < 4
  ·
   rw [if_pos (by exact h), Nat.div_eq_of_lt h, Nat.mod_eq_of_lt h]
   rfl
  ·
   have e1 : q / 4 = (q - 4) / 4 + 1 := by omega
   have e2 : q % 4 = (q - 4) % 4 := by omega
   rw [if_neg (by exact h), e1, e2, List.getElem?_cons_succ]
   exact flat4_get x (q - 4)
theorem flat4_one (x : List S26) : ∀ u ∈ x.flatMap cells4, u.oneCell' = true := by
 intro u hu
 obtain ⟨y, _, hy⟩ := List.mem_flatMap.1 hu
 simp only [cells4, List.mem_cons, List.not_mem_nil, or_false] at hy
 rcases hy with rfl | rfl | rfl | rfl <;> rfl
theorem R_all4 {base go cap n : Nat} {W : World} {x : List S26} (h : Kd.R k26 26 W base (fun _ => True) (.slice (some ⟨go, 0, none⟩) n cap) x) (q : Nat) (u : Value) (hq : (x.flatMap cells4)[q]? = some u) : W.cell? ⟨go, q, none⟩ = some u := by
 have hn := (Kd.R_reads' h).1
 have hlt : q < x.length * 4 := by
  rw [← flat4_len x]
  exact (List.getElem?_eq_some_iff.1 hq).1
 obtain ⟨ce, hcl, hM, hcc, hfr⟩ := Kd.R_elem h z26 ((q / 4 : Nat) : Int) (by omega) (by omega)
 obtain rfl := k26_openM hM
 rw [Int.toNat_natCast] at hcc
 rw [flat4_get, List.getElem?_eq_getElem (show q / 4 < x.length by omega)] at hq
 have e : x.getD (q / 4) z26 = x[q / 4] := by rw [List.getD_eq_getElem?_getD, List.getElem?_eq_getElem (show q / 4 < x.length by omega)]; rfl
 rw [e] at hcc
 have h1 := hcc (q % 4) u hq
 have e2 : q / 4 * k26.sz + q % 4 = q := by show q / 4 * 4 + q % 4 = q; omega
 rwa [e2] at h1
theorem R_put4 {base go cap n : Nat} : ∀ (ys : List S26) (i : Nat) (W : World) (x : List S26), i + ys.length ≤ n → Kd.R k26 26 W base (fun _ => True) (.slice (some ⟨go, 0, none⟩) n cap) x →
  Kd.R k26 26 (W.setCells go (i * 4) (ys.flatMap cells4)) base (fun _ => True) (.slice (some ⟨go, 0, none⟩) n cap) (x.take i ++ ys ++ x.drop (i + ys.length))
 | [], i, W, x, hi, h => by
  have e : x.take i ++ [] ++ x.drop (i + ([] : List S26).length) = x := by simp
  rw [e]
  simpa [World.setCells] using h
 | y :: ys, i, W, x, hi, h => by
  have hx := (Kd.R_reads' h).1
  rw [List.length_cons] at hi
  rw [List.flatMap_cons, setCells_app]
  obtain ⟨ce, hcl, hM, hcc, hfr⟩ := Kd.R_elem h z26 (i : Int) (by omega) (by omega)
  have HP := Kd.R_seg (okp := fun _ => False) h (i : Int) (by omega) (by omega) (seg := cells4 y) (j := 0) hcl hcc (show 4 ≤ 4 from by decide) (x' := y) (by
   have e5 : ce.drop (0 + (cells4 y).length) = [] := List.drop_of_length_le (by rw [hcl]; exact Nat.le_refl _)
   rw [e5]
   exact k26_mkM W base (fun _ => False) y) (fun _ hk => False.elim hk)
  have H1 := HP.1
  simp only [Int.toNat_natCast, Nat.add_zero] at H1
  have H2 := R_put4 ys (i + 1) _ (x.set i y) (by omega) H1
  have e6 : (x.set i y).take (i + 1) ++ ys ++ (x.set i y).drop (i + 1 + ys.length) = x.take i ++ (y :: ys) ++ x.drop (i + (y :: ys).length) := by
   rw [List.take_succ_eq_append_getElem (by simp; omega), List.drop_set_of_lt (by omega), List.length_cons, show i + 1 + ys.length = i + (ys.length + 1) by omega]
   simp [List.take_set_of_le]
  rw [e6, show (i + 1) * 4 = i * 4 + 4 by omega] at H2
  exact H2
set_option maxHeartbeats 8000000 in
set_option maxRecDepth 100000 in
theorem te_delete (base i j : Nat) (v : Value) (l : List S26) (w : World) (HR : Kd.R k26 26 w base (fun _ => True) v l) (hi : i < l.length) (hj : j = i + 1) (hbig : l.length ≤ 4398046511104) (hbs : base ≤ w.heap.size) :
  Calls Try.prog 85 #[v, .int .i64 (i : Int), .int .i64 (j : Int)] w fun e w' => ∃ v0_ : Value, e = .returned v0_ ∧ Kd.R k26 26 w' base (fun _ => True) v0_ (l.eraseIdx i) ∧ Below base w w' := by
 obtain ⟨go, c, eo, hgb, hgl, cl, hcl⟩ := Kd.R_form HR (by omega)
 cases eo
 have hcap := (Kd.R_reads' HR).2.1
 obtain ⟨i0, hi0, hz0, hz1, hz2⟩ := info_parts info26
 have t22 := Try.underlying24
 obtain ⟨news, hnews⟩ : ∃ news, news = (l.drop j).flatMap cells4 := ⟨_, rfl⟩
 have hlen : news.length = (l.length - j) * 4 := by rw [hnews, flat4_len, List.length_drop]
 have hget : ∀ t u, news[t]? = some u → w.drew.cell? ⟨go, j * 4 + t, none⟩ = some u := by
  intro t u hu
  refine R_all4 (W := w) HR (j * 4 + t) u ?_
  rw [hnews, flat4_drop, List.getElem?_drop] at hu
  exact hu
 have HRd : Kd.R k26 26 w.drew base (fun _ => True) (.slice (some ⟨go, 0, none⟩) l.length c) l := Kd.R_drew HR
 have H1 := R_put4 (l.drop j) i w.drew l (by rw [List.length_drop]; omega) HRd
 rw [← hnews] at H1
 obtain ⟨W1, hW1⟩ : ∃ W1, W1 = w.drew.setCells go (i * 4) news := ⟨_, rfl⟩
 rw [← hW1] at H1
 have hB1 : Below base w W1 := by rw [hW1]; exact below_cells hgb _ _ _ (below_then (Below.refl base w) hbs (below_drew1 (Below.refl _ w)))
 have hclr : ∀ ty, (Builtin.clear_ #[24] ty #[.slice (some ⟨go, (i + (l.length - j)) * 4, none⟩) (l.length - (i + (l.length - j))) (c - (i + (l.length - j)))]).run Try.prog W1 = .ok (.tuple #[]) (W1.setCells go ((i + (l.length - j)) * 4) (List.replicate ((l.length - (i + (l.length - j))) * 4) (.int .i64 0))) :=
  fun ty => run_clear4 W1 ty go ((i + (l.length - j)) * 4) (l.length - (i + (l.length - j))) (c - (i + (l.length - j))) (by omega) (fun q hq => (R_some4 H1 ((i + (l.length - j)) * 4 + q) (by omega)).1) (fun q hq => (R_some4 H1 ((i + (l.length - j)) * 4 + q) (by omega)).2)
 have H2 := R_clear4 (l.length - (i + (l.length - j))) (i + (l.length - j)) W1 _ (by omega) H1
 have H3 := Kd.R_take (m := i + (l.length - j)) H2 (by simp; omega)
 have ex : ((l.take i ++ l.drop j ++ l.drop (i + (l.drop j).length)).take (i + (l.length - j)) ++ List.replicate (l.length - (i + (l.length - j))) z26).take (i + (l.length - j)) = l.eraseIdx i := by
  have e1 : (l.take i ++ l.drop j).length = (i + (l.length - j)) := by simp; omega
  rw [List.take_append_of_le_length (by simp only [List.length_take, List.length_append, List.length_drop]; omega), List.take_take, Nat.min_self, List.take_append_of_le_length (by omega), List.take_of_length_le (by omega), List.eraseIdx_eq_take_drop_succ, hj]
 rw [ex] at H3
 obtain ⟨A, hA, hsrc⟩ : ∃ A : Addr, (if c = j then (some ⟨go, 0, none⟩ : Option Addr) else some ⟨go, j * 4, none⟩) = some A ∧ Aside0 (∀ t u, news[t]? = some u → w.drew.cell? (A.add t) = some u) := by
  by_cases h : c = j
  ·
   refine ⟨⟨go, 0, none⟩, by simp [h], ⟨fun t u hu => ?_⟩⟩
   have h0 : news.length = 0 := by rw [hlen]; omega
   rw [List.length_eq_zero_iff.1 h0] at hu
   simp at hu
  ·
   refine ⟨⟨go, j * 4, none⟩, by simp [h], ⟨fun t u hu => ?_⟩⟩
   have ea : (⟨go, j * 4, none⟩ : Addr).add t = ⟨go, j * 4 + t, none⟩ := by unfold Addr.add; split <;> simp_all
   rw [ea]
   exact hget t u hu
 have s1 : Aside0 (news.length = (l.length - j) * 4) := ⟨hlen⟩
 have s2 : Aside0 (∀ u ∈ news, u.oneCell' = true) := ⟨by rw [hnews]; exact flat4_one _⟩
 have s3 : Aside0 (∀ t, t < news.length → (w.drew.cell? ⟨go, 0 + i * 4 + t, none⟩).isSome = true ∧ w.drew.frozen? ⟨go, 0 + i * 4 + t, none⟩ = false) := ⟨fun t ht => by
  rw [hlen] at ht
  rw [Nat.zero_add]
  exact R_some4 HRd (i * 4 + t) (by omega)⟩
 have hW : Aside0 (W1 = w.drew.setCells go (0 + i * 4) news) := ⟨by rw [hW1, Nat.zero_add]⟩
 have HF := Aside0.mk H3
 have HB := Aside0.mk hB1
 have GB := Aside0.mk hgb
 have hic : i ≤ c := by omega
 have hkc : i + (l.length - j) ≤ c := by omega
 have hkl : i + (l.length - j) ≤ l.length := by omega
 have hkn : ¬ c = i + (l.length - j) := by omega
 have hjc : j ≤ c := by omega
 have hij : i ≤ j := by omega
 have hlt : i < j := by omega
 have hjl : j ≤ l.length := by omega
 have mixed : Try.prog.follows Departure.mixedOrders = true := by kernel_rfl
 have hne1 : ((i : Int) == (j : Int)) = false := beq_eq_false_iff_ne.2 (by omega)
 clear hW1 H1 H2 H3 ex hB1 HR HRd hget hnews hlen hcl hgl hgb
 have HJ := Aside0.mk hj
 clear hj
 go_enter Try.func85, Try.ntmps85
 go_wp2_with (fail)
 go_region_law_o (refine step_append_room rfl (.tmp 22) (.tmp 25) 24 rfl 26 i0 4 t22 hi0 hz1 go 0 i c (by simp [Act.eval, Act.put]) A (l.length - j) (c - j) news (by simp [Act.eval, Act.put]) s1.out hsrc.out s2.out (by have := HJ.out; omega) s3.out ?_; rw [← hW.out])
 go_wp2
 go_ret
 exact ⟨_, rfl, HF.out, below_cells GB.out _ _ _ HB.out⟩
def impl_TakeEvent.f (k : Nat) (l0 : List (S26)) (a1_0 : Int) (a1_1 : Int) (a1_2 : Int) (a1_3 : Int) : Option ((List (S26)) × Bool) := if l0.length < 4398046511104 then ((impl_Event_84.f k l0 a1_0 a1_1 a1_2 a1_3).bind fun p => ((impl_IsScore.f k l0).bind fun s => (if s = true ∧ 0 ≤ p then (if p < (l0.length : Int) then (some (l0.eraseIdx p.toNat, true)) else (none)) else (some (l0, false))))) else (none)
set_option maxHeartbeats 8000000 in
set_option maxRecDepth 100000 in
theorem impl_TakeEvent.calls (k : Nat) (A0 : Option Addr) (c0 : Nat) (l0 : List (S26)) (a1_0 : Int) (a1_1 : Int) (a1_2 : Int) (a1_3 : Int) (r1 : List (S26)) (r2 : Bool) (w : World) (hr0 : Kd.C k26 w A0 l0.length l0) (hc0 : l0.length ≤ c0) (h : impl_TakeEvent.f k l0 a1_0 a1_1 a1_2 a1_3 = some (r1, r2)) :
  Calls Try.prog 13 #[.slice A0 l0.length c0, .agg #[.int .i64 a1_0, .int .i64 a1_1, .int .i64 a1_2, .int .i64 a1_3]] w fun e w' => ∃ v0_ : Value, e = .returned (.tuple #[v0_, .bool r2]) ∧ Kd.R k26 26 w' w.heap.size (fun _ => True) v0_ r1 ∧ Below w.heap.size w w' := by
 have HR0 := Aside0.mk hr0
 have HC0 := Aside0.mk hc0
 clear hr0 hc0
 have HW := Aside0.mk (Below.refl w.heap.size w)
 unfold impl_TakeEvent.f at h
 by_cases hl : l0.length < 4398046511104
 ·
  rw [if_pos hl] at h
  have HL := Aside0.mk hl
  have hcl : impl_Event_83.f l0 = some l0 := by unfold impl_Event_83.f; simp only [Option.bind_some, List.length_nil, List.nil_append]; rw [if_pos (by omega)]
  have HCL := Aside0.mk hcl
  clear hl hcl
  obtain ⟨p, ap, h⟩ := Option.bind_eq_some_iff.mp h
  obtain ⟨s, as_, h⟩ := Option.bind_eq_some_iff.mp h
  have AP := Aside0.mk ap
  have AS := Aside0.mk as_
  clear ap as_
  cases s with
  | false =>
   simp only [Bool.false_eq_true, false_and, if_false, Option.some.injEq, Prod.mk.injEq] at h
   obtain ⟨rfl, rfl⟩ := h
   go_enter Try.func13, Try.ntmps13
   go_wp2_with (first | ((with_reducible refine gate_dst (N := 3) rfl ?_); refine box_event ?hg (N := 3) ?hd (cs := #[.int .i64 a1_0, .int .i64 a1_1, .int .i64 a1_2, .int .i64 a1_3]) (t := 26) ?hr ?_; (case hd => rfl); (case hg => rfl); (case hr => first | (go_simp; done) | (go_simp; rfl)); intro gv hg w3 hbv hb; have n0_ := Aside0.mk (below_step (by repeat (first | (with_reducible first | exact HW.out | apply below_alloc | apply pw_below_drewN | apply below_drew1) | exact HW.out)) hb); clear HW; have HW := n0_; clear n0_; have hcv0 : w3.cell? ⟨gv, 0, none⟩ = some (.int .i64 a1_0) := (blk_cell hbv 0).trans rfl; have hcv1 : w3.cell? ⟨gv, 1, none⟩ = some (.int .i64 a1_1) := (blk_cell hbv 1).trans rfl; have hcv2 : w3.cell? ⟨gv, 2, none⟩ = some (.int .i64 a1_2) := (blk_cell hbv 2).trans rfl; have hcv3 : w3.cell? ⟨gv, 3, none⟩ = some (.int .i64 a1_3) := (blk_cell hbv 3).trans rfl; clear hb hg hbv) | ((with_reducible refine gate_callee (f := 84) rfl ?_); refine goesL_ (some 9) rfl rfl Try.func84 (by kernel_rfl) rfl #[.slice A0 l0.length c0, .agg #[.int .i64 a1_0, .int .i64 a1_1, .int .i64 a1_2, .int .i64 a1_3]] rfl (by (try simp only [List.map_toArray, List.map_cons, List.map_nil]); first | done | rfl | (simp only [List.length_drop, List.length_take]; rfl)) ?_; (with_reducible refine (impl_Event_84.calls k _ _ l0 a1_0 a1_1 a1_2 a1_3 p _ ?side1 ?side2 AP.out).mono ?_); (case side1 => repeat (first | exact (Kd.C_below HR0.out HW.out) | (with_reducible refine Kd.C_alloc ?_ _) | (with_reducible refine Kd.C_drewN ?_ _) | (with_reducible refine Kd.C_drew ?_))); (case side2 => exact HC0.out); rintro e w5 ⟨rfl, hb⟩; refine ⟨_, rfl, ?_⟩; have n0_ := Aside0.mk (below_step (by repeat (first | (with_reducible first | exact HW.out | apply below_alloc | apply pw_below_drewN | apply below_drew1) | exact HW.out)) hb); clear HW; have HW := n0_; clear n0_ hb hcv0 hcv1 hcv2 hcv3) | ((with_reducible refine gate_callee (f := 14) rfl ?_); refine goesL_ (some 11) rfl rfl Try.func14 (by kernel_rfl) rfl #[.slice A0 l0.length c0] rfl (by (try simp only [List.map_toArray, List.map_cons, List.map_nil]); first | done | rfl | (simp only [List.length_drop, List.length_take]; rfl)) ?_; (with_reducible refine (impl_IsScore.calls k _ _ l0 false _ ?side1 ?side2 AS.out).mono ?_); (case side1 => repeat (first | exact (Kd.C_below HR0.out HW.out) | (with_reducible refine Kd.C_alloc ?_ _) | (with_reducible refine Kd.C_drewN ?_ _) | (with_reducible refine Kd.C_drew ?_))); (case side2 => exact HC0.out); rintro e w6 ⟨rfl, hb⟩; refine ⟨_, rfl, ?_⟩; have n0_ := Aside0.mk (below_step (by repeat (first | (with_reducible first | exact HW.out | apply below_alloc | apply pw_below_drewN | apply below_drew1) | exact HW.out)) hb); clear HW; have HW := n0_; clear n0_ hb) | ((with_reducible refine gate_callee (f := 83) rfl ?_); refine goesL_ (some 18) rfl rfl Try.func83 (by kernel_rfl) rfl #[.slice A0 l0.length c0] rfl (by (try simp only [List.map_toArray, List.map_cons, List.map_nil]); first | done | rfl | (simp only [List.length_drop, List.length_take]; rfl)) ?_; (with_reducible refine (impl_Event_83.calls _ _ l0 l0 _ ?side1 ?side2 HCL.out).mono ?_); (case side1 => repeat (first | exact (Kd.C_below HR0.out HW.out) | (with_reducible refine Kd.C_alloc ?_ _) | (with_reducible refine Kd.C_drewN ?_ _) | (with_reducible refine Kd.C_drew ?_))); (case side2 => exact HC0.out); rintro e w7 ⟨v7, rfl, ho, hb⟩; refine ⟨_, rfl, ?_⟩; have n0_ := Aside0.mk (Kd.R_lower ho (below_size (by repeat (first | (with_reducible first | exact HW.out | apply below_alloc | apply pw_below_drewN | apply below_drew1) | exact HW.out)))); have n1_ := Aside0.mk (below_step (by repeat (first | (with_reducible first | exact HW.out | apply below_alloc | apply pw_below_drewN | apply below_drew1) | exact HW.out)) hb); clear HW; have HO := n0_; have HW := n1_; clear n0_ n1_ hb ho))
   go_ret2
   exact ⟨_, by first | rfl | (simp; done), by (with_reducible repeat (first | apply Kd.R_alloc | apply Kd.R_drewN | apply Kd.R_drew)); exact HO.out, by repeat (first | (with_reducible first | exact HW.out | apply below_alloc | apply pw_below_drewN | apply below_drew1) | exact HW.out)⟩
  | true =>
   by_cases hp : 0 ≤ p
   ·
    rw [if_pos ⟨rfl, hp⟩] at h
    by_cases hpl : p < (l0.length : Int)
    ·
     rw [if_pos hpl] at h
     simp only [Option.some.injEq, Prod.mk.injEq] at h
     obtain ⟨rfl, rfl⟩ := h
     obtain ⟨pn, rfl⟩ := Int.eq_ofNat_of_zero_le hp
     have HP : Aside0 (pn < l0.length) := ⟨by omega⟩
     have hp0 : decide ((pn : Int) < 0) = false := decide_eq_false (by omega)
     have hw1 : wrap64 ((pn : Int) + 1) = ((pn + 1 : Nat) : Int) := by have := HL.out; unfold wrap64; omega
     clear hp hpl
     go_enter Try.func13, Try.ntmps13
     go_wp2_with (first | ((with_reducible refine gate_dst (N := 3) rfl ?_); refine box_event ?hg (N := 3) ?hd (cs := #[.int .i64 a1_0, .int .i64 a1_1, .int .i64 a1_2, .int .i64 a1_3]) (t := 26) ?hr ?_; (case hd => rfl); (case hg => rfl); (case hr => first | (go_simp; done) | (go_simp; rfl)); intro gv hg w3 hbv hb; have n0_ := Aside0.mk (below_step (by repeat (first | (with_reducible first | exact HW.out | apply below_alloc | apply pw_below_drewN | apply below_drew1) | exact HW.out)) hb); clear HW; have HW := n0_; clear n0_; have hcv0 : w3.cell? ⟨gv, 0, none⟩ = some (.int .i64 a1_0) := (blk_cell hbv 0).trans rfl; have hcv1 : w3.cell? ⟨gv, 1, none⟩ = some (.int .i64 a1_1) := (blk_cell hbv 1).trans rfl; have hcv2 : w3.cell? ⟨gv, 2, none⟩ = some (.int .i64 a1_2) := (blk_cell hbv 2).trans rfl; have hcv3 : w3.cell? ⟨gv, 3, none⟩ = some (.int .i64 a1_3) := (blk_cell hbv 3).trans rfl; clear hb hg hbv) | ((with_reducible refine gate_callee (f := 84) rfl ?_); refine goesL_ (some 9) rfl rfl Try.func84 (by kernel_rfl) rfl #[.slice A0 l0.length c0, .agg #[.int .i64 a1_0, .int .i64 a1_1, .int .i64 a1_2, .int .i64 a1_3]] rfl (by (try simp only [List.map_toArray, List.map_cons, List.map_nil]); first | done | rfl | (simp only [List.length_drop, List.length_take]; rfl)) ?_; (with_reducible refine (impl_Event_84.calls k _ _ l0 a1_0 a1_1 a1_2 a1_3 (pn : Int) _ ?side1 ?side2 AP.out).mono ?_); (case side1 => repeat (first | exact (Kd.C_below HR0.out HW.out) | (with_reducible refine Kd.C_alloc ?_ _) | (with_reducible refine Kd.C_drewN ?_ _) | (with_reducible refine Kd.C_drew ?_))); (case side2 => exact HC0.out); rintro e w5 ⟨rfl, hb⟩; refine ⟨_, rfl, ?_⟩; have n0_ := Aside0.mk (below_step (by repeat (first | (with_reducible first | exact HW.out | apply below_alloc | apply pw_below_drewN | apply below_drew1) | exact HW.out)) hb); clear HW; have HW := n0_; clear n0_ hb hcv0 hcv1 hcv2 hcv3) | ((with_reducible refine gate_callee (f := 14) rfl ?_); refine goesL_ (some 11) rfl rfl Try.func14 (by kernel_rfl) rfl #[.slice A0 l0.length c0] rfl (by (try simp only [List.map_toArray, List.map_cons, List.map_nil]); first | done | rfl | (simp only [List.length_drop, List.length_take]; rfl)) ?_; (with_reducible refine (impl_IsScore.calls k _ _ l0 true _ ?side1 ?side2 AS.out).mono ?_); (case side1 => repeat (first | exact (Kd.C_below HR0.out HW.out) | (with_reducible refine Kd.C_alloc ?_ _) | (with_reducible refine Kd.C_drewN ?_ _) | (with_reducible refine Kd.C_drew ?_))); (case side2 => exact HC0.out); rintro e w6 ⟨rfl, hb⟩; refine ⟨_, rfl, ?_⟩; have n0_ := Aside0.mk (below_step (by repeat (first | (with_reducible first | exact HW.out | apply below_alloc | apply pw_below_drewN | apply below_drew1) | exact HW.out)) hb); clear HW; have HW := n0_; clear n0_ hb) | ((with_reducible refine gate_callee (f := 83) rfl ?_); refine goesL_ (some 20) rfl rfl Try.func83 (by kernel_rfl) rfl #[.slice A0 l0.length c0] rfl (by (try simp only [List.map_toArray, List.map_cons, List.map_nil]); first | done | rfl | (simp only [List.length_drop, List.length_take]; rfl)) ?_; (with_reducible refine (impl_Event_83.calls _ _ l0 l0 _ ?side1 ?side2 HCL.out).mono ?_); (case side1 => repeat (first | exact (Kd.C_below HR0.out HW.out) | (with_reducible refine Kd.C_alloc ?_ _) | (with_reducible refine Kd.C_drewN ?_ _) | (with_reducible refine Kd.C_drew ?_))); (case side2 => exact HC0.out); rintro e w7 ⟨v7, rfl, ho, hb⟩; refine ⟨_, rfl, ?_⟩; have n0_ := Aside0.mk (Kd.R_lower ho (below_size (by repeat (first | (with_reducible first | exact HW.out | apply below_alloc | apply pw_below_drewN | apply below_drew1) | exact HW.out)))); have n1_ := Aside0.mk (below_step (by repeat (first | (with_reducible first | exact HW.out | apply below_alloc | apply pw_below_drewN | apply below_drew1) | exact HW.out)) hb); clear HW; have HO := n0_; have HW := n1_; clear n0_ n1_ hb ho) | (go_at_call 85; (refine (te_delete w.heap.size pn (pn + 1) v7 l0 _ ?s1 HP.out rfl ?s3 ?s4).mono ?_); (case s1 => (with_reducible repeat (first | apply Kd.R_alloc | apply Kd.R_drewN | apply Kd.R_drew)); exact HO.out); (case s3 => have := HL.out; omega); (case s4 => exact below_size (by repeat (first | (with_reducible first | exact HW.out | apply below_alloc | apply pw_below_drewN | apply below_drew1) | exact HW.out))); rintro e w8 ⟨v8, rfl, ho8, hb8⟩; have HO8 := Aside0.mk ho8; have HB8 := Aside0.mk (Below.trans (by repeat (first | (with_reducible first | exact HW.out | apply below_alloc | apply pw_below_drewN | apply below_drew1) | exact HW.out)) hb8); clear ho8 hb8))
     go_ret2
     exact ⟨_, by first | rfl | (simp; done), by (with_reducible repeat (first | apply Kd.R_alloc | apply Kd.R_drewN | apply Kd.R_drew)); exact HO8.out, by repeat (first | (with_reducible first | exact HB8.out | apply below_alloc | apply pw_below_drewN | apply below_drew1) | exact HB8.out)⟩
    ·
     rw [if_neg hpl] at h
     exact absurd h (by simp)
   ·
    rw [if_neg (fun hh => hp hh.2)] at h
    simp only [Option.some.injEq, Prod.mk.injEq] at h
    obtain ⟨rfl, rfl⟩ := h
    have hp0 : decide (p < 0) = true := decide_eq_true (by omega)
    clear hp
    go_enter Try.func13, Try.ntmps13
    go_wp2_with (first | ((with_reducible refine gate_dst (N := 3) rfl ?_); refine box_event ?hg (N := 3) ?hd (cs := #[.int .i64 a1_0, .int .i64 a1_1, .int .i64 a1_2, .int .i64 a1_3]) (t := 26) ?hr ?_; (case hd => rfl); (case hg => rfl); (case hr => first | (go_simp; done) | (go_simp; rfl)); intro gv hg w3 hbv hb; have n0_ := Aside0.mk (below_step (by repeat (first | (with_reducible first | exact HW.out | apply below_alloc | apply pw_below_drewN | apply below_drew1) | exact HW.out)) hb); clear HW; have HW := n0_; clear n0_; have hcv0 : w3.cell? ⟨gv, 0, none⟩ = some (.int .i64 a1_0) := (blk_cell hbv 0).trans rfl; have hcv1 : w3.cell? ⟨gv, 1, none⟩ = some (.int .i64 a1_1) := (blk_cell hbv 1).trans rfl; have hcv2 : w3.cell? ⟨gv, 2, none⟩ = some (.int .i64 a1_2) := (blk_cell hbv 2).trans rfl; have hcv3 : w3.cell? ⟨gv, 3, none⟩ = some (.int .i64 a1_3) := (blk_cell hbv 3).trans rfl; clear hb hg hbv) | ((with_reducible refine gate_callee (f := 84) rfl ?_); refine goesL_ (some 9) rfl rfl Try.func84 (by kernel_rfl) rfl #[.slice A0 l0.length c0, .agg #[.int .i64 a1_0, .int .i64 a1_1, .int .i64 a1_2, .int .i64 a1_3]] rfl (by (try simp only [List.map_toArray, List.map_cons, List.map_nil]); first | done | rfl | (simp only [List.length_drop, List.length_take]; rfl)) ?_; (with_reducible refine (impl_Event_84.calls k _ _ l0 a1_0 a1_1 a1_2 a1_3 p _ ?side1 ?side2 AP.out).mono ?_); (case side1 => repeat (first | exact (Kd.C_below HR0.out HW.out) | (with_reducible refine Kd.C_alloc ?_ _) | (with_reducible refine Kd.C_drewN ?_ _) | (with_reducible refine Kd.C_drew ?_))); (case side2 => exact HC0.out); rintro e w5 ⟨rfl, hb⟩; refine ⟨_, rfl, ?_⟩; have n0_ := Aside0.mk (below_step (by repeat (first | (with_reducible first | exact HW.out | apply below_alloc | apply pw_below_drewN | apply below_drew1) | exact HW.out)) hb); clear HW; have HW := n0_; clear n0_ hb hcv0 hcv1 hcv2 hcv3) | ((with_reducible refine gate_callee (f := 14) rfl ?_); refine goesL_ (some 11) rfl rfl Try.func14 (by kernel_rfl) rfl #[.slice A0 l0.length c0] rfl (by (try simp only [List.map_toArray, List.map_cons, List.map_nil]); first | done | rfl | (simp only [List.length_drop, List.length_take]; rfl)) ?_; (with_reducible refine (impl_IsScore.calls k _ _ l0 true _ ?side1 ?side2 AS.out).mono ?_); (case side1 => repeat (first | exact (Kd.C_below HR0.out HW.out) | (with_reducible refine Kd.C_alloc ?_ _) | (with_reducible refine Kd.C_drewN ?_ _) | (with_reducible refine Kd.C_drew ?_))); (case side2 => exact HC0.out); rintro e w6 ⟨rfl, hb⟩; refine ⟨_, rfl, ?_⟩; have n0_ := Aside0.mk (below_step (by repeat (first | (with_reducible first | exact HW.out | apply below_alloc | apply pw_below_drewN | apply below_drew1) | exact HW.out)) hb); clear HW; have HW := n0_; clear n0_ hb) | ((with_reducible refine gate_callee (f := 83) rfl ?_); refine goesL_ (some 18) rfl rfl Try.func83 (by kernel_rfl) rfl #[.slice A0 l0.length c0] rfl (by (try simp only [List.map_toArray, List.map_cons, List.map_nil]); first | done | rfl | (simp only [List.length_drop, List.length_take]; rfl)) ?_; (with_reducible refine (impl_Event_83.calls _ _ l0 l0 _ ?side1 ?side2 HCL.out).mono ?_); (case side1 => repeat (first | exact (Kd.C_below HR0.out HW.out) | (with_reducible refine Kd.C_alloc ?_ _) | (with_reducible refine Kd.C_drewN ?_ _) | (with_reducible refine Kd.C_drew ?_))); (case side2 => exact HC0.out); rintro e w7 ⟨v7, rfl, ho, hb⟩; refine ⟨_, rfl, ?_⟩; have n0_ := Aside0.mk (Kd.R_lower ho (below_size (by repeat (first | (with_reducible first | exact HW.out | apply below_alloc | apply pw_below_drewN | apply below_drew1) | exact HW.out)))); have n1_ := Aside0.mk (below_step (by repeat (first | (with_reducible first | exact HW.out | apply below_alloc | apply pw_below_drewN | apply below_drew1) | exact HW.out)) hb); clear HW; have HO := n0_; have HW := n1_; clear n0_ n1_ hb ho))
    go_ret2
    exact ⟨_, by first | rfl | (simp; done), by (with_reducible repeat (first | apply Kd.R_alloc | apply Kd.R_drewN | apply Kd.R_drew)); exact HO.out, by repeat (first | (with_reducible first | exact HW.out | apply below_alloc | apply pw_below_drewN | apply below_drew1) | exact HW.out)⟩
 ·
  rw [if_neg hl] at h
  exact absurd h (by simp)
end Go.Proofs.Ytbhlmeghbfmgiaa.F

namespace Go.Proofs.Ytbhlmeghbfmgiaa.F
open Go.RowKit Go.Proofs.YtbhlmeghbfmgiaaW.PrintWords Go.Proofs.YtbhlmeghbfmgiaaW.PrintLast Go.Proofs.YtbhlmeghbfmgiaaW.PrintMore
attribute [local go_sem] max2_int min2_int max_two min_two max_three min_three max_four min_four
set_option linter.unusedVariables false
set_option linter.unusedSimpArgs false
theorem R_mk4 {base go cap : Nat} {W : World} {x : List S26} (cur : Array Value) (hh : W.heap[go]? = some (.cells cur 26 (0, 0))) (hb : base ≤ go) (hc : x.length ≤ cap) (hm : cap ≤ maxLen) (hs : cur.size = cap * 4) (ht : cur.toList.take (x.length * 4) = x.flatMap cells4) :
  Kd.R k26 26 W base (fun _ => True) (.slice (some ⟨go, 0, none⟩) x.length cap) x := by
 refine ⟨fun _ _ => trivial, x.flatMap cells4, ⟨flat4_len x, .inr ⟨go, cap, cur, rfl, hb, hh, hc, hm, hs, ht⟩⟩, flat4_len x, fun j p hj => ?_⟩
 have e : ((x.flatMap cells4).drop (j * k26.sz)).take k26.sz = cells4 p := by
  show ((x.flatMap cells4).drop (j * 4)).take 4 = cells4 p
  rw [← flat4_drop]
  obtain ⟨hjl, rfl⟩ := List.getElem?_eq_some_iff.1 hj
  rw [List.drop_eq_getElem_cons hjl, List.flatMap_cons]
  rfl
 rw [e]
 exact k26_mkM W base _ p
theorem R_un4 {base go cap n : Nat} {W : World} {x : List S26} (h : Kd.R k26 26 W base (fun _ => True) (.slice (some ⟨go, 0, none⟩) n cap) x) : n = x.length ∧ base ≤ go ∧ ∃ cur : Array Value, W.heap[go]? = some (.cells cur 26 (0, 0)) ∧ n ≤ cap ∧ cap ≤ maxLen ∧ cur.size = cap * 4 ∧ cur.toList.take (x.length * 4) = x.flatMap cells4 := by
 have hn := (Kd.R_reads' h).1
 have hall := R_all4 h
 obtain ⟨_, inner, ho, hr⟩ := h
 obtain ⟨hl, hh⟩ := ho
 rcases hh with ⟨hv, _⟩ | ⟨g, c, cur, hv, hb, hheap, hnc, hcm, hcs, ht⟩
 ·
  simp at hv
 ·
  simp only [Value.slice.injEq, Option.some.injEq, Addr.mk.injEq] at hv
  obtain ⟨⟨rfl, _, _⟩, hv2, rfl⟩ := hv
  refine ⟨hn, hb, cur, hheap, by omega, hcm, hcs, ?_⟩
  apply List.ext_getElem?
  intro q
  by_cases hq : q < x.length * 4
  ·
   rw [List.getElem?_take_of_lt hq, Array.getElem?_toList]
   have hlt : q < (x.flatMap cells4).length := by rw [flat4_len]; exact hq
   have h1 := hall q _ (List.getElem?_eq_getElem hlt)
   rw [blk_cell hheap] at h1
   rw [h1, List.getElem?_eq_getElem hlt]
  ·
   rw [List.getElem?_eq_none (by rw [List.length_take]; omega), List.getElem?_eq_none (by rw [flat4_len]; omega)]
set_option maxRecDepth 100000 in
theorem run_copy4 (W : World) (ty go o dLen dCap : Nat) (a : Addr) (sLen sCap : Nat) (cs : List Value) (hn : cs.length = Nat.min sLen dLen * 4)
  (hsrc : ∀ j v, cs[j]? = some v → W.cell? (a.add j) = some v) (hc : ∀ j, j < cs.length → (W.cell? ⟨go, o + j, none⟩).isSome = true) (hf : ∀ j, j < cs.length → W.frozen? ⟨go, o + j, none⟩ = false) (h1 : ∀ v ∈ cs, v.oneCell' = true) :
  (Builtin.copy_ #[24, 24] ty #[.slice (some ⟨go, o, none⟩) dLen dCap, .slice (some a) sLen sCap]).run Try.prog W = .ok (goInt (Nat.min sLen dLen)) (W.setCells go o cs) := by
 have hl := run_loadCells_list (P := Try.prog) W a cs hsrc
 have hst := run_storeCells_cells (P := Try.prog) go o cs 0 W (by simpa using hc) (by simpa using hf) h1
 obtain ⟨i0, hi0, hz0, hz1, hz2⟩ := info_parts info26
 simp [Builtin.copy_, run_underlying Try.underlying24, Builtin.lenOf, Builtin.firstCells, sizeOf, typeInfo, hi0, hz1, ← hn, hl, hst]
theorem zero4 (m : Nat) : (Builtin.zeroCells (Value.agg #[.int .i64 0, .int .i64 0, .int .i64 0, .int .i64 0]).cells m).toList = List.replicate (m * 4) (Value.int .i64 0) := by
 have e : (Value.agg #[.int .i64 0, .int .i64 0, .int .i64 0, .int .i64 0]).cells = #[.int .i64 0, .int .i64 0, .int .i64 0, .int .i64 0] := rfl
 rw [e]
 apply List.ext_getElem
 ·
  simp [Builtin.zeroCells]
 ·
  intro i h1 h2
  have h4 : i % 4 < 4 := Nat.mod_lt _ (by decide)
  simp only [Builtin.zeroCells, Array.toList_map, List.getElem_map, List.getElem_replicate]
  simp only [Array.getElem_toList, Array.getElem_range]
  show (#[Value.int .i64 0, .int .i64 0, .int .i64 0, .int .i64 0])[i % 4]! = _
  generalize i % 4 = q at h4
  match q, h4 with
  | 0, _ => rfl
  | 1, _ => rfl
  | 2, _ => rfl
  | 3, _ => rfl
theorem flat4_zero : ∀ m : Nat, (List.replicate m z26).flatMap cells4 = List.replicate (m * 4) (Value.int .i64 0)
 | 0 => rfl
 | m + 1 => by
  rw [List.replicate_succ, List.flatMap_cons, flat4_zero m, show (m + 1) * 4 = m * 4 + 1 + 1 + 1 + 1 by omega]
  simp only [List.replicate_succ]
  rfl
theorem add_at4 (g o t : Nat) : (⟨g, o, none⟩ : Addr).add t = ⟨g, o + t, none⟩ := by unfold Addr.add; split <;> simp_all
theorem flat4_take : ∀ (j : Nat) (x : List S26), (x.take j).flatMap cells4 = (x.flatMap cells4).take (j * 4)
 | 0, x => by simp
 | j + 1, [] => by simp
 | j + 1, y :: x => by
  rw [List.take_succ_cons, List.flatMap_cons, flat4_take j x, List.flatMap_cons, show (j + 1) * 4 = (cells4 y).length + j * 4 by show _ = 4 + j * 4; omega, List.take_length_add_append]
set_option maxHeartbeats 8000000 in
set_option maxRecDepth 100000 in
theorem pe_grow (base go c i bv : Nat) (l : List S26) (e : S26) (w : World) (HR : Kd.R k26 26 w base (fun _ => True) (.slice (some ⟨go, 0, none⟩) l.length c) l) (HV : Kd.R k26 26 w base (fun _ => True) (.slice (some ⟨bv, 0, none⟩) 1 1) [e]) (hi : i < l.length) (hroom : c < l.length + 1) (hbig : l.length ≤ 4000000000000) (hbs : base ≤ w.heap.size) :
  Calls Try.prog 82 #[.slice (some ⟨go, 0, none⟩) l.length c, .int .i64 (i : Int), .slice (some ⟨bv, 0, none⟩) 1 1] w fun r w' => ∃ v0_ : Value, r = .returned v0_ ∧ Kd.R k26 26 w' base (fun _ => True) v0_ (l.take i ++ [e] ++ l.drop i) ∧ Below base w w' := by
 have hw0 : wrap64 ((l.length : Int) + 1) = (l.length : Int) + 1 := by unfold wrap64; omega
 have hw1 : wrap64 ((i : Int) + 1) = (i : Int) + 1 := by unfold wrap64; omega
 have hw2 : IntKind.i64.wrap ((i : Int) + 1) = (i : Int) + 1 := by rw [IntKind.wrap_i64]; omega
 have hb1 : (0 : Int) ≤ (i : Int) + 1 := by omega
 have htn : ((i : Int) + 1).toNat = i + 1 := by omega
 have hb3 : (i : Int) ≤ (l.length : Int) := by omega
 have hkk : wrap64 ((l.length : Int) + 1 - (i : Int)) = (l.length : Int) + 1 - (i : Int) := by unfold wrap64; omega
 have hk2 : (l.length : Int) + 1 - (i : Int) = ((l.length + 1 - i : Nat) : Int) := by omega
 obtain ⟨-, hbg, cur, hcur, hnc, hcm, hcsz, hct⟩ := R_un4 HR
 have hbw : go < w.heap.size := blk_lt hcur
 obtain ⟨-, -, curv, hcurv, -, -, -, -⟩ := R_un4 HV
 have hvw : bv < w.heap.size := blk_lt hcurv
 have u25 := run_underlying Try.underlying24
 have mixed : Try.prog.follows Departure.mixedOrders = true := by kernel_rfl
 obtain ⟨i0, hi0, hz0, hzs, hzb⟩ := info_parts info26
 have hcs := R_all4 HR
 have hvs : ∀ j u, (cells4 e)[j]? = some u → w.cell? ⟨bv, j, none⟩ = some u := fun j u hu => R_all4 HV j u (by simpa using hu)
 have hik : i + (l.length + 1 - i) = l.length + 1 := by omega
 have hlt4 : ((l.take i).flatMap cells4).length = i * 4 := by rw [flat4_len, List.length_take]; congr 1; omega
 have hold : (Builtin.firstCells i0.size i (.slice (some ⟨go, 0, none⟩) i c)).run Try.prog w.drew = .ok ((l.take i).flatMap cells4).toArray w.drew := by
  rw [hzs]
  exact run_firstCells_some w.drew 4 i ⟨go, 0, none⟩ i c ((l.take i).flatMap cells4) hlt4 (fun j v hj => by
   rw [add_plain]
   rw [flat4_take, List.getElem?_take] at hj
   split at hj
   ·
    exact hcs j v hj
   ·
    cases hj)
 obtain ⟨G, hG⟩ : ∃ G, G = grownCap w (l.length + 1) c 26 := ⟨_, rfl⟩
 obtain ⟨ROW, hROW⟩ : ∃ ROW : Array Value, ROW = ((l.take i).flatMap cells4).toArray ++ Builtin.zeroCells (Value.agg #[.int .i64 0, .int .i64 0, .int .i64 0, .int .i64 0]).cells (l.length + 1 - i) ++ Builtin.zeroCells (Value.agg #[.int .i64 0, .int .i64 0, .int .i64 0, .int .i64 0]).cells (G - (l.length + 1)) := ⟨_, rfl⟩
 have hrz : ∀ ty, (Builtin.append_ #[24, 3] ty #[.slice (some ⟨go, 0, none⟩) i c, .int .i64 ((l.length : Int) + 1 - (i : Int))]).run Try.prog w = .ok (.slice (some ⟨w.heap.size, 0, none⟩) (l.length + 1) G) (w.drew.alloc (.cells ROW 26)) := fun ty => by
  have h := Lib.run_append_grow_zeros w 24 3 ty 26 i0 _ .i64 .i64 Try.underlying24 Try.underlying3 hi0 hz0 (some ⟨go, 0, none⟩) i c ((l.take i).flatMap cells4) hold (l.length + 1 - i) (by omega) (by omega) (by omega) (by omega) (by rw [hzb]; omega) (by rw [hzb, hik]; exact growslice_fits hroom (by omega))
  rw [hik] at h
  rw [hROW, hG, hk2]
  exact h
 have hGn : l.length + 1 ≤ G := by rw [hG]; exact grownCap_ge w _ _ _
 have hGm : G ≤ maxLen := by rw [hG]; exact grownCap_le_maxLen w (l.length + 1) c 26 (by unfold maxLen; omega)
 obtain ⟨W1, hW1⟩ : ∃ W1, W1 = w.drew.alloc (.cells ROW 26) := ⟨_, rfl⟩
 have hR1l : ROW.toList = (l.take i ++ List.replicate (l.length + 1 - i) z26).flatMap cells4 ++ List.replicate ((G - (l.length + 1)) * 4) (.int .i64 0) := by
  rw [hROW, Array.toList_append, Array.toList_append, zero4, zero4, List.flatMap_append, flat4_zero]
 have hlen1 : (l.take i ++ List.replicate (l.length + 1 - i) z26).length = l.length + 1 := by simp; omega
 have HR1 : Kd.R k26 26 W1 base (fun _ => True) (.slice (some ⟨w.heap.size, 0, none⟩) (l.length + 1) G) (l.take i ++ List.replicate (l.length + 1 - i) z26) := by
  have := R_mk4 (base := base) (go := w.heap.size) (cap := G) (W := W1) (x := l.take i ++ List.replicate (l.length + 1 - i) z26) ROW (by rw [hW1]; exact blk_new w.drew _) hbs (by omega) hGm (by rw [← Array.length_toList, hR1l, List.length_append, flat4_len, hlen1, List.length_replicate]; omega) (by rw [hR1l, List.take_left' (by rw [flat4_len])])
  rwa [hlen1] at this
 have HR2 := R_put4 [e] i W1 _ (by simp; omega) HR1
 obtain ⟨W2, hW2⟩ : ∃ W2, W2 = W1.setCells w.heap.size (i * 4) (cells4 e) := ⟨_, rfl⟩
 have hW2' : W1.setCells w.heap.size (i * 4) ([e].flatMap cells4) = W2 := by rw [hW2]; simp
 rw [hW2'] at HR2
 have HR3 := R_put4 (l.drop i) (i + 1) W2.drew _ (by rw [List.length_drop]; omega) (Kd.R_drew HR2)
 have ex : ((l.take i ++ List.replicate (l.length + 1 - i) z26).take i ++ [e] ++ (l.take i ++ List.replicate (l.length + 1 - i) z26).drop (i + [e].length)).take (i + 1) ++ l.drop i ++ ((l.take i ++ List.replicate (l.length + 1 - i) z26).take i ++ [e] ++ (l.take i ++ List.replicate (l.length + 1 - i) z26).drop (i + [e].length)).drop (i + 1 + (l.drop i).length) = l.take i ++ [e] ++ l.drop i := by
  have hti : (l.take i).length = i := by rw [List.length_take]; omega
  have e1 : (l.take i ++ List.replicate (l.length + 1 - i) z26).take i = l.take i := by rw [List.take_left' hti]
  rw [e1]
  have e2 : (l.take i ++ [e] ++ (l.take i ++ List.replicate (l.length + 1 - i) z26).drop (i + [e].length)).take (i + 1) = l.take i ++ [e] := by rw [List.take_left' (by simp; omega)]
  rw [e2, List.drop_of_length_le (l := l.take i ++ [e] ++ (l.take i ++ List.replicate (l.length + 1 - i) z26).drop (i + [e].length)) (by simp; omega), List.append_nil]
 rw [ex] at HR3
 have hN : ∀ q, q < (l.length + 1) * 4 → (W1.cell? ⟨w.heap.size, q, none⟩).isSome = true ∧ W1.frozen? ⟨w.heap.size, q, none⟩ = false := fun q hq => R_some4 HR1 q hq
 have hN2 : ∀ q, q < (l.length + 1) * 4 → (W2.cell? ⟨w.heap.size, q, none⟩).isSome = true ∧ W2.frozen? ⟨w.heap.size, q, none⟩ = false := fun q hq => R_some4 HR2 q hq
 have hOb : ∀ j v, w.cell? ⟨go, j, none⟩ = some v → W2.cell? ⟨go, j, none⟩ = some v := fun j v h => by
  rw [hW2, World.cell?_setCells_out _ _ _ _ _ (fun h' _ => absurd h' (by show go ≠ w.heap.size; omega)), hW1, World.cell?_alloc_past (w := w.drew) _ go j hbw]
  exact h
 have hOv : ∀ j v, w.cell? ⟨bv, j, none⟩ = some v → W1.cell? ⟨bv, j, none⟩ = some v := fun j v h => by rw [hW1, World.cell?_alloc_past (w := w.drew) _ bv j hvw]; exact h
 have hmA : Nat.min 1 (l.length + 1 - i) = 1 := Nat.min_eq_left (by omega)
 have hmB : Nat.min (l.length - i) (l.length + 1 - (i + 1)) = l.length - i := Nat.min_eq_left (by omega)
 have h1e : ∀ u ∈ cells4 e, u.oneCell' = true := fun u hu => flat4_one [e] u (by simpa using hu)
 have hcpA : ∀ (W : World), (∀ x, W.cell? x = W1.cell? x) → (∀ x, W.frozen? x = W1.frozen? x) → ∀ ty dc, (Builtin.copy_ #[24, 24] ty #[.slice (some ⟨w.heap.size, i * 4, none⟩) (l.length + 1 - i) dc, .slice (some ⟨bv, 0, none⟩) 1 1]).run Try.prog W = .ok (goInt (Nat.min 1 (l.length + 1 - i))) (W.setCells w.heap.size (i * 4) (cells4 e)) := fun W hWc hWf ty dc =>
  run_copy4 W ty w.heap.size (i * 4) (l.length + 1 - i) dc ⟨bv, 0, none⟩ 1 1 (cells4 e) (by rw [hmA]; rfl)
   (fun j v hj => by rw [add_plain, hWc]; exact hOv _ v (hvs j v hj))
   (fun j hj => by rw [hWc]; exact (hN _ (by have : (cells4 e).length = 4 := rfl; omega)).1) (fun j hj => by rw [hWf]; exact (hN _ (by have : (cells4 e).length = 4 := rfl; omega)).2) h1e
 have hdl : ((l.drop i).flatMap cells4).length = (l.length - i) * 4 := by rw [flat4_len, List.length_drop]
 have hcpB : ∀ (W : World), (∀ x, W.cell? x = W2.cell? x) → (∀ x, W.frozen? x = W2.frozen? x) → ∀ ty dc sc, (Builtin.copy_ #[24, 24] ty #[.slice (some ⟨w.heap.size, (i + 1) * 4, none⟩) (l.length + 1 - (i + 1)) dc, .slice (some ⟨go, i * 4, none⟩) (l.length - i) sc]).run Try.prog W = .ok (goInt (Nat.min (l.length - i) (l.length + 1 - (i + 1)))) (W.setCells w.heap.size ((i + 1) * 4) ((l.drop i).flatMap cells4)) := fun W hWc hWf ty dc sc =>
  run_copy4 W ty w.heap.size ((i + 1) * 4) (l.length + 1 - (i + 1)) dc ⟨go, i * 4, none⟩ (l.length - i) sc ((l.drop i).flatMap cells4) (by rw [hmB, hdl])
   (fun j v hj => by
    rw [add_at4, hWc]
    refine hOb _ v (hcs (i * 4 + j) v ?_)
    rwa [flat4_drop, List.getElem?_drop] at hj)
   (fun j hj => by rw [hWc]; exact (hN2 _ (by omega)).1) (fun j hj => by rw [hWf]; exact (hN2 _ (by omega)).2) (flat4_one _)
 have hG63 : G ≤ 9223372036854775807 := by unfold maxLen at hGm; omega
 have hGi : ¬ (G = i) := by omega
 have hGim : ¬ (G = i + 1) := by omega
 have hci : ¬ (c = i) := by omega
 have hiG : i ≤ G := by omega
 have hi1G : i + 1 ≤ G := by omega
 have hic : i ≤ c := by omega
 have hil : i ≤ l.length := by omega
 have hz2 : ((i : Int) == (l.length : Int)) = false := beq_eq_false_iff_ne.2 (by omega)
 have hgt : (c : Int) < (l.length : Int) + 1 := by omega
 rw [hW2, hW1] at HR3
 have HF := Aside0.mk HR3
 have BS := Aside0.mk hbs
 have hE1 : ∀ x, ((w.alloc (.cells ROW 26)).drew).cell? x = W1.cell? x := fun x => by rw [hW1]; rfl
 have hE2 : ∀ x, ((w.alloc (.cells ROW 26)).drew).frozen? x = W1.frozen? x := fun x => by rw [hW1]; rfl
 have hF1 : ∀ x, ((((w.alloc (.cells ROW 26)).drew).setCells w.heap.size (i * 4) (cells4 e)).drew).cell? x = W2.cell? x := fun x => by rw [hW2, hW1]; rfl
 have hF2 : ∀ x, ((((w.alloc (.cells ROW 26)).drew).setCells w.heap.size (i * 4) (cells4 e)).drew).frozen? x = W2.frozen? x := fun x => by rw [hW2, hW1]; rfl
 have hcpA1 := hcpA _ hE1 hE2
 have hcpB1 := hcpB _ hF1 hF2
 clear hcpA hcpB hE1 hE2 hF1 hF2
 clear hk2 hik hW1 hW2' hcm hGm hcsz HR HV HR1 HR2 HR3 hcur hcurv hct hcs hvs hold hROW hG hR1l hlen1 hN hN2 hOb hOv h1e hdl ex hlt4 hbs hbig hW2
 go_enter Try.func82, Try.ntmps82
 go_wp2_with (first
  | (at_builtin; refine Lib.wpList_append_run _ rfl _ _ _ _ rfl _ _ rfl rfl _ _ (hrz _) ?_)
  | (at_builtin; refine wpList_copy_runI _ rfl _ _ 24 24 rfl _ _ rfl rfl (hcpA1 _ _) ?_))
 go_region_law_o (refine step_copy_runI rfl _ _ 24 24 rfl (.slice (some ⟨w.heap.size, (i + 1) * 4, none⟩) (l.length + 1 - (i + 1)) (G - (i + 1))) (.slice (some ⟨go, i * 4, none⟩) (l.length - i) (c - i)) (by simp [Act.eval, Act.put]) (by simp [Act.eval, Act.put]) (hcpB1 3 (G - (i + 1)) (c - i)) ?_)
 go_wp2
 go_ret
 refine ⟨_, rfl, HF.out, ?_⟩
 refine below_cells BS.out _ _ _ ?_
 have h0 : Below base w (w.alloc (.cells ROW 26)) := (Below.refl base w).alloc BS.out _
 have h1 : Below base w (w.alloc (.cells ROW 26)).drew := below_then h0 (Nat.le_trans BS.out (below_size (below_alloc (Below.refl _ w) _))) (below_drew1 (Below.refl _ _))
 have h2 := below_cells BS.out (cells4 e) (i * 4) _ h1
 exact below_then h2 (Nat.le_trans BS.out (Nat.le_trans (below_size (below_drew1 (below_alloc (Below.refl _ w) _))) (Nat.le_of_eq (setCells_same _ _ _ _).2.2.2.symm))) (below_drew1 (Below.refl _ _))
set_option maxHeartbeats 8000000 in
set_option maxRecDepth 100000 in
theorem pe_shift (base go c i bv : Nat) (l : List S26) (e : S26) (w : World) (HR : Kd.R k26 26 w base (fun _ => True) (.slice (some ⟨go, 0, none⟩) l.length c) l) (HV : Kd.R k26 26 w base (fun _ => True) (.slice (some ⟨bv, 0, none⟩) 1 1) [e]) (hne : bv ≠ go) (hi : i < l.length) (hroom : l.length + 1 ≤ c) (hbig : l.length ≤ 4000000000000) (hbs : base ≤ w.heap.size) :
  Calls Try.prog 82 #[.slice (some ⟨go, 0, none⟩) l.length c, .int .i64 (i : Int), .slice (some ⟨bv, 0, none⟩) 1 1] w fun r w' => ∃ v0_ : Value, r = .returned v0_ ∧ Kd.R k26 26 w' base (fun _ => True) v0_ (l.take i ++ [e] ++ l.drop i) ∧ Below base w w' := by
 have hw0 : wrap64 ((l.length : Int) + 1) = (l.length : Int) + 1 := by unfold wrap64; omega
 have hw1 : wrap64 ((i : Int) + 1) = (i : Int) + 1 := by unfold wrap64; omega
 have hw2 : IntKind.i64.wrap ((i : Int) + 1) = (i : Int) + 1 := by rw [IntKind.wrap_i64]; omega
 have hw3 : IntKind.i64.wrap ((l.length : Int) + 1) = (l.length : Int) + 1 := by rw [IntKind.wrap_i64]; omega
 have hb1 : (0 : Int) ≤ (i : Int) + 1 := by omega
 have htn : ((i : Int) + 1).toNat = i + 1 := by omega
 have hb3 : (i : Int) ≤ (l.length : Int) := by omega
 have hb5 : (i : Int) ≤ (l.length : Int) + 1 := by omega
 have hb6 : (0 : Int) ≤ (l.length : Int) + 1 := by omega
 have hb7 : ((l.length : Int) + 1).toNat = l.length + 1 := by omega
 have hb8 : (l.length : Int) + 1 ≤ (c : Int) := by omega
 obtain ⟨-, hbg, cur, hcur, hnc, hcm, hcsz, hct⟩ := R_un4 HR
 obtain ⟨-, -, curv, hcurv, -, -, -, -⟩ := R_un4 HV
 have u25 := run_underlying Try.underlying24
 have mixed : Try.prog.follows Departure.mixedOrders = true := by kernel_rfl
 have hcs := R_all4 HR
 have hvs : ∀ j u, (cells4 e)[j]? = some u → w.cell? ⟨bv, j, none⟩ = some u := fun j u hu => R_all4 HV j u (by simpa using hu)
 have hall : ∀ q, q < c * 4 → (w.cell? ⟨go, q, none⟩).isSome = true := fun q hq => by
  rw [blk_cell hcur, Array.getElem?_eq_getElem (by omega)]; rfl
 have hfz : ∀ q, w.frozen? ⟨go, q, none⟩ = false := fun q => blk_frozen hcur q
 have hov : ∀ lb cb, (callFunc 132 #[.slice (some ⟨bv, 0, none⟩) 1 1, .slice (some ⟨go, (i + 1) * 4, none⟩) lb cb]).run Try.prog w = .ok (.value (.bool false)) w := fun lb cb => by
  rw [run_callFunc_extern Try.func132 (by kernel_rfl) (by kernel_rfl) (by kernel_rfl) (e := Extern.SlicesOverlaps.overlaps #[24, 24] #[4]) (by kernel_rfl),
   Lib.run_overlaps_apart w 24 4 26 Try.underlying24 4 Try.sizeOf26 ⟨bv, 0, none⟩ ⟨go, (i + 1) * 4, none⟩ 1 1 lb cb hne 26 26 curv.size cur.size (by unfold World.shape?; rw [hcurv]) (by unfold World.shape?; rw [hcur]) (by omega) (blk_frozen hcurv 0) (blk_frozen hcurv _)]
  rfl
 obtain ⟨vs, hvsd⟩ : ∃ vs, vs = (l.drop i).flatMap cells4 := ⟨_, rfl⟩
 have hdl : vs.length = (l.length - i) * 4 := by rw [hvsd, flat4_len, List.length_drop]
 have h1v : ∀ u ∈ vs, u.oneCell' = true := by rw [hvsd]; exact flat4_one _
 have hmA : Nat.min 1 (l.length + 1 - i) = 1 := Nat.min_eq_left (by omega)
 have hmB : Nat.min (l.length + 1 - i) (l.length + 1 - (i + 1)) = l.length - i := by
  rw [show l.length + 1 - (i + 1) = l.length - i by omega]
  exact Nat.min_eq_right (by omega)
 have h1e : ∀ u ∈ cells4 e, u.oneCell' = true := fun u hu => flat4_one [e] u (by simpa using hu)
 obtain ⟨W1, hW1⟩ : ∃ W1, W1 = w.drew.setCells go ((i + 1) * 4) vs := ⟨_, rfl⟩
 have hcp1 : ∀ ty dc sc, (Builtin.copy_ #[24, 24] ty #[.slice (some ⟨go, (i + 1) * 4, none⟩) (l.length + 1 - (i + 1)) dc, .slice (some ⟨go, i * 4, none⟩) (l.length + 1 - i) sc]).run Try.prog w.drew = .ok (goInt (Nat.min (l.length + 1 - i) (l.length + 1 - (i + 1)))) W1 := fun ty dc sc => by
  rw [hW1]
  exact run_copy4 w.drew ty go ((i + 1) * 4) (l.length + 1 - (i + 1)) dc ⟨go, i * 4, none⟩ (l.length + 1 - i) sc vs (by rw [hmB, hdl])
   (fun j v hj => by
    rw [add_at4]
    refine hcs (i * 4 + j) v ?_
    rwa [hvsd, flat4_drop, List.getElem?_drop] at hj)
   (fun j hj => hall _ (by omega)) (fun j hj => hfz _) h1v
 obtain ⟨cur1, hcur1, hsz1, htl1⟩ := setCells_row vs ((i + 1) * 4) w.drew cur hcur (by omega)
 rw [← hW1] at hcur1
 obtain ⟨cur2, hcur2, hsz2, htl2⟩ := setCells_row (cells4 e) (i * 4) W1 cur1 hcur1 (by rw [hsz1, hcsz]; show i * 4 + 4 ≤ _; omega)
 have hvW1 : ∀ j u, (cells4 e)[j]? = some u → W1.cell? ⟨bv, j, none⟩ = some u := fun j u hu => by
  rw [hW1, World.cell?_setCells_out _ _ _ _ _ (fun h' _ => absurd h' hne)]
  exact hvs j u hu
 have hcp2 : ∀ ty dc, (Builtin.copy_ #[24, 24] ty #[.slice (some ⟨go, i * 4, none⟩) (l.length + 1 - i) dc, .slice (some ⟨bv, 0, none⟩) 1 1]).run Try.prog W1 = .ok (goInt (Nat.min 1 (l.length + 1 - i))) (W1.setCells go (i * 4) (cells4 e)) := fun ty dc =>
  run_copy4 W1 ty go (i * 4) (l.length + 1 - i) dc ⟨bv, 0, none⟩ 1 1 (cells4 e) (by rw [hmA]; rfl)
   (fun j v hj => by rw [add_plain]; exact hvW1 j v hj)
   (fun j hj => by
    have : (cells4 e).length = 4 := rfl
    rw [blk_cell hcur1, Array.getElem?_eq_getElem (by omega)]; rfl) (fun j hj => blk_frozen hcur1 _) h1e
 have hlx : (l.take i ++ [e] ++ l.drop i).length = l.length + 1 := by simp; omega
 have hfin : cur2.toList.take ((l.take i ++ [e] ++ l.drop i).length * 4) = (l.take i ++ [e] ++ l.drop i).flatMap cells4 := by
  have e0 : cur.toList.take (i * 4) = (l.take i).flatMap cells4 := by
   rw [flat4_take, ← hct, List.take_take, Nat.min_eq_left (by omega)]
  have hcl : cur.toList.length = c * 4 := by rw [Array.length_toList, hcsz]
  have e1 : cur1.toList.take (i * 4) = (l.take i).flatMap cells4 := by
   rw [htl1, List.append_assoc, List.take_append_of_le_length (by rw [List.length_take]; omega), List.take_take, Nat.min_eq_left (by omega), e0]
  have e2 : cur1.toList.drop (i * 4 + (cells4 e).length) = vs ++ cur.toList.drop ((i + 1) * 4 + vs.length) := by
   rw [htl1, List.append_assoc, List.drop_left' (by rw [List.length_take, hcl]; show min _ _ = i * 4 + 4; omega)]
  rw [htl2, e1, e2, List.flatMap_append, List.flatMap_append, ← hvsd, ← List.append_assoc]
  have e3 : [e].flatMap cells4 = cells4 e := by simp
  rw [e3]
  refine List.take_left' ?_
  rw [hlx, List.length_append, List.length_append, flat4_len, List.length_take, hdl]
  show min i l.length * 4 + 4 + _ = _
  omega
 have HR2 := R_mk4 (base := base) (cap := c) (x := l.take i ++ [e] ++ l.drop i) cur2 hcur2 hbg (by rw [hlx]; exact hroom) hcm (by rw [hsz2, hsz1, hcsz]) hfin
 rw [hlx] at HR2
 have HF := Aside0.mk HR2
 have HB : Aside0 (Below base w (W1.setCells go (i * 4) (cells4 e))) := ⟨by
  refine below_cells hbg _ _ _ ?_
  rw [hW1]
  exact below_cells hbg _ _ _ (below_then (Below.refl base w) hbs (below_drew1 (Below.refl _ w)))⟩
 have hic : i ≤ c := by omega
 have hil : i ≤ l.length := by omega
 have hil1 : i ≤ l.length + 1 := by omega
 have hnc2 : ¬ (c : Int) < (l.length : Int) + 1 := by omega
 have hci : ¬ (c = i) := by omega
 have hci1 : ¬ (c = i + 1) := by omega
 have hz2 : ((i : Int) == (l.length : Int)) = false := beq_eq_false_iff_ne.2 (by omega)
 have hc63 : c ≤ 9223372036854775807 := by unfold maxLen at hcm; omega
 clear HR HV HR2 hcur hcurv hcur1 hcur2 hsz1 hsz2 htl1 htl2 hfin hct hcs hvs hvW1 hall hfz hdl h1v h1e hvsd hlx hcm hcsz hbs hbig hne hW1
 go_enter Try.func82, Try.ntmps82
 go_wp2_with (simp only [hov])
 go_region_law_o (refine step_copy_runI rfl _ _ 24 24 rfl (.slice (some ⟨go, (i + 1) * 4, none⟩) (l.length + 1 - (i + 1)) (c - (i + 1))) (.slice (some ⟨go, i * 4, none⟩) (l.length + 1 - i) (c - i)) (by simp [Act.eval, Act.put]) (by simp [Act.eval, Act.put]) (hcp1 3 (c - (i + 1)) (c - i)) ?_)
 go_wp2_with (at_builtin; refine wpList_copy_runI _ rfl _ _ 24 24 rfl _ _ rfl rfl (hcp2 _ _) ?_)
 go_ret
 exact ⟨_, rfl, HF.out, HB.out⟩
set_option maxHeartbeats 8000000 in
set_option maxRecDepth 100000 in
theorem pe_end (base bv : Nat) (v : Value) (l : List S26) (e : S26) (w : World) (HR : Kd.R k26 26 w base (fun _ => True) v l) (HV : Kd.R k26 26 w base (fun _ => True) (.slice (some ⟨bv, 0, none⟩) 1 1) [e]) (hbig : l.length ≤ 4000000000000) (hbs : base ≤ w.heap.size) :
  Calls Try.prog 82 #[v, .int .i64 (l.length : Int), .slice (some ⟨bv, 0, none⟩) 1 1] w fun r w' => ∃ v0_ : Value, r = .returned v0_ ∧ Kd.R k26 26 w' base (fun _ => True) v0_ (l ++ [e]) ∧ Below base w w' := by
 have hCV := (Kd.R_reads' HV).2.2
 obtain ⟨A, c, rfl⟩ := Kd.R_slice HR
 have hnc := (Kd.R_reads' HR).2.1
 have HO := Aside0.mk HR
 have HC := Aside0.mk hCV
 have HB := Aside0.mk (Below.refl base w)
 have BS := Aside0.mk hbs
 have HL := Aside0.mk hbig
 have hz2 : ((l.length : Int) == (l.length : Int)) = true := beq_self_eq_true _
 clear HR HV hCV hbs hbig
 go_enter Try.func82, Try.ntmps82
 go_wp2_with ((with_reducible refine gate_builtin (b := .append) (xs := #[.tmp 23, .tmp 24]) rfl ?_); at_builtin; refine Kd.R_append_rows k26 (w0 := w) base rfl (.tmp 23) (.tmp 24) 24 26 (.agg #[(.int .i64 0), (.int .i64 0), (.int .i64 0), (.int .i64 0)]) 32 rfl Try.underlying24 info26 rfl (by decide) (by omega) (.slice A l.length c) l [e] _ _ _ (fun _ => True) (fun _ => False) rfl rfl ?aO ?aR (fun _ _ h => h) (fun _ h => h.elim) ?aF ?aB ?aS ?aL ?_; (case aR => exact HC.out); (case aB => exact HB.out); (case aF => exact (fun _ _ => trivial)); (case aO => exact HO.out); (case aS => exact BS.out); (case aL => have := HL.out; show (l.length + 1) * 32 ≤ _; omega); intro v1 w1 ho hb hg hat; have HO1 := Aside0.mk ho; have HB1 := Aside0.mk hb; clear ho hb hg hat)
 all_goals (go_ret; exact ⟨_, rfl, HO1.out, HB1.out⟩)
def ordV (x e : S26) : Option Int := impl_eventOrder.f 4 x.f0 x.f1 x.f2 x.f3 e.f0 e.f1 e.f2 e.f3
def notB (e x : S26) : Bool := decide (0 ≤ (ordV x e).getD 0)
set_option maxHeartbeats 8000000 in
set_option maxRecDepth 100000 in
theorem po_pred (e : S26) (gb : Nat) (x : S26) (w : World) (hbox : w.heap[gb]? = some (.cells #[.int .i64 e.f0, .int .i64 e.f1, .int .i64 e.f2, .int .i64 e.f3] 26 (0, 0))) (hs : (ordV x e).isSome = true) :
  Calls Try.prog 80 #[.agg #[.int .i64 x.f0, .int .i64 x.f1, .int .i64 x.f2, .int .i64 x.f3], .pointer (some ⟨gb, 0, none⟩)] w fun r w' => r = .returned (.bool (notB e x)) ∧ Below w.heap.size w w' := by
 obtain ⟨o, ho⟩ := Option.isSome_iff_exists.1 hs
 have hb : notB e x = decide (0 ≤ o) := by unfold notB; rw [ho]; rfl
 rw [hb]
 have AO : Aside0 (impl_eventOrder.f 4 x.f0 x.f1 x.f2 x.f3 e.f0 e.f1 e.f2 e.f3 = some o) := ⟨ho⟩
 have HX := Aside0.mk hbox
 have HW := Aside0.mk (Below.refl w.heap.size w)
 have hc0 : w.cell? ⟨gb, 0, none⟩ = some (.int .i64 e.f0) := (blk_cell hbox 0).trans rfl
 have hc1 : w.cell? ⟨gb, 1, none⟩ = some (.int .i64 e.f1) := (blk_cell hbox 1).trans rfl
 have hc2 : w.cell? ⟨gb, 2, none⟩ = some (.int .i64 e.f2) := (blk_cell hbox 2).trans rfl
 have hc3 : w.cell? ⟨gb, 3, none⟩ = some (.int .i64 e.f3) := (blk_cell hbox 3).trans rfl
 have hlt : gb < w.heap.size := blk_lt hbox
 have hne : gb ≠ w.heap.size := by omega
 clear hbox hs ho hb
 go_enter Try.func80, Try.ntmps80
 go_wp2_with (go_at_call 81; (refine (impl_eventOrder.calls 4 x.f0 x.f1 x.f2 x.f3 e.f0 e.f1 e.f2 e.f3 o _ AO.out).mono ?_); rintro r w5 ⟨rfl, hb⟩; have HB5 := Aside0.mk hb; clear hb)
 all_goals (go_ret; exact ⟨by first | rfl | simp_all, below_step (below_alloc (Below.refl _ w) _) HB5.out⟩)
def poIdx (e : S26) (l : List S26) : Int := if l.findIdx (notB e) < l.length then ((l.findIdx (notB e) : Nat) : Int) else -1
set_option maxHeartbeats 8000000 in
set_option maxRecDepth 100000 in
theorem po_index (e : S26) (gb : Nat) (A : Option Addr) (c : Nat) (l : List S26) (w : World) (hC : Kd.C k26 w A l.length l) (hbig : l.length ≤ 9223372036854775807) (hbox : w.heap[gb]? = some (.cells #[.int .i64 e.f0, .int .i64 e.f1, .int .i64 e.f2, .int .i64 e.f3] 26 (0, 0))) (hs : ∀ x ∈ l, (ordV x e).isSome = true) :
  Calls Try.prog 79 #[.slice A l.length c, .func (.func 80) #[] #[.pointer (some ⟨gb, 0, none⟩)]] w fun r w' => r = .returned (.int .i64 (poIdx e l)) ∧ Below w.heap.size w w' := by
 have eg : ∀ args w, (callFunc 80 args).run Try.prog w = .ok (.enter 80 args) w := enters_of Try.func80 (by kernel_rfl) rfl
 have HC := Aside0.mk hC
 have HX := Aside0.mk hbox
 have HS := Aside0.mk hs
 clear hC hbox hs
 have HB := Aside0.mk (Below.refl w.heap.size w)
 go_enter Try.func79, Try.ntmps79
 go_wp2
 go_loopg [5, 8] l.length (fun gg _ s8 wr => ∃ i : Int, s8 = .int .i64 i ∧ Aside0 (0 ≤ i ∧ i ≤ l.length ∧ l.length - i.toNat ≤ gg) ∧ Aside0 (Below w.heap.size w wr) ∧ Aside0 (∀ j (h : j < l.length), j < i.toNat → notB e l[j] = false))
 case atStart => exact ⟨0, by first | rfl | simp, ⟨by omega, by omega, by omega⟩, HB, ⟨fun j h h' => absurd h' (by simp)⟩⟩
 case round =>
  clear HB
  obtain ⟨i, rfl, HI, HB, HN⟩ := hrel
  obtain ⟨h0, h1, hg⟩ := HI.out
  clear HI
  by_cases hlt : i < (l.length : Int)
  ·
   have hltn : i.toNat < l.length := by omega
   have hb0 : decide (i < (l.length : Int)) = true := decide_eq_true hlt
   obtain ⟨ad, ea, hx0, hx1, hx2, hx3⟩ := at_T26 (Kd.C_below HC.out HB.out) i h0 hlt
   cases ea
   have HG := Aside0.mk (And.intro h0 (And.intro h1 hg))
   have HL := Aside0.mk (And.intro hlt hltn)
   have hrd := rdV l i h0 hltn
   replace h0 := eq_true h0
   replace hlt := eq_true hlt
   clear h1 hg
   have hbx := blk_below HX.out HB.out
   have hcall := po_pred e gb (rd_T26 l i) wr hbx (by rw [hrd]; exact HS.out _ (List.getElem_mem hltn))
   clear hbx hltn hrd
   generalize hy : rd_T26 l i = y at hcall hx0 hx1 hx2 hx3
   have HY := Aside0.mk hy
   clear hy
   cases hq : notB e y with
   | true =>
    rw [hq] at hcall
    go_wp2_with (go_at_fn 80; refine hcall.mono ?_; rintro r w' ⟨rfl, hb'⟩)
    go_ret
    refine ⟨?_, below_step HB.out hb'⟩
    have hltn := HL.out.2
    have e1 : l.findIdx (notB e) = i.toNat := by
     rw [List.findIdx_eq hltn]
     refine ⟨?_, fun j hj => HN.out j (by omega) hj⟩
     rw [← rdV l i HG.out.1 hltn, HY.out]
     exact hq
    have := HG.out.1
    unfold poIdx
    rw [e1, if_pos hltn, Int.toNat_of_nonneg HG.out.1]
    rfl
   | false =>
    rw [hq] at hcall
    go_wp2_with (go_at_fn 80; refine hcall.mono ?_; rintro r w' ⟨rfl, hb'⟩)
    go_roundg (l.length - (i + 1).toNat)
    case measure => have := HG.out; have := HL.out; omega
    case rel =>
     have g := HG.out
     have g2 := HL.out
     have ew : wrap64 (i + 1) = i + 1 := by unfold wrap64; omega
     refine ⟨wrap64 (i + 1), (by first | rfl | (simp; done) | (simp [*]; done)), ⟨by omega, by omega, by omega⟩, ⟨below_step HB.out hb'⟩, ⟨fun j h hj => ?_⟩⟩
     rw [ew] at hj
     by_cases ej : j = i.toNat
     ·
      subst ej
      rw [← rdV l i g.1 h, HY.out]
      exact hq
     ·
      exact HN.out j h (by omega)
  ·
   have hb0 : decide (i < (l.length : Int)) = false := decide_eq_false hlt
   have hi : i.toNat = l.length := by omega
   clear hg h0 h1
   go_wp2
   go_ret
   refine ⟨?_, HB.out⟩
   have e1 : l.findIdx (notB e) = l.length := by
    rw [List.findIdx_eq_length]
    intro x hx
    obtain ⟨j, hj, rfl⟩ := List.getElem_of_mem hx
    exact HN.out j hj (by omega)
   unfold poIdx
   rw [e1, if_neg (by omega)]
   rfl
theorem pe_insert (base bv i : Nat) (v : Value) (l : List S26) (e : S26) (w : World) (HR : Kd.R k26 26 w base (fun _ => True) v l) (HV : Kd.R k26 26 w base (fun _ => True) (.slice (some ⟨bv, 0, none⟩) 1 1) [e]) (hne : some bv ≠ v.ownBlock) (hi : i ≤ l.length) (hbig : l.length ≤ 4000000000000) (hbs : base ≤ w.heap.size) :
  Calls Try.prog 82 #[v, .int .i64 (i : Int), .slice (some ⟨bv, 0, none⟩) 1 1] w fun r w' => ∃ v0_ : Value, r = .returned v0_ ∧ Kd.R k26 26 w' base (fun _ => True) v0_ (l.take i ++ [e] ++ l.drop i) ∧ Below base w w' := by
 by_cases h : i = l.length
 ·
  subst h
  have := pe_end base bv v l e w HR HV hbig hbs
  rwa [List.take_length, List.drop_length, List.append_nil]
 ·
  obtain ⟨go, c, rfl, hgb, hgl, cl, hcl⟩ := Kd.R_form HR (by omega)
  by_cases hc : c < l.length + 1
  ·
   exact pe_grow base go c i bv l e w HR HV (by omega) hc hbig hbs
  ·
   exact pe_shift base go c i bv l e w HR HV (fun hh => hne (by rw [hh]; rfl)) (by omega) (by omega) hbig hbs
theorem lt_new0 (W : World) (o : Obj) : W.heap.size < (W.alloc o).heap.size := by show W.heap.size < (W.heap.push o).size; rw [Array.size_push]; exact Nat.lt_succ_self _
theorem lt_new1 (W : World) (o : Obj) : W.heap.size < (W.alloc o).drew.heap.size := lt_new0 W o
def impl_PutEvent.f (k : Nat) (l0 : List (S26)) (a1_0 : Int) (a1_1 : Int) (a1_2 : Int) (a1_3 : Int) : Option ((List (S26)) × Bool) := if l0.length < 4000000000000 ∧ l0.all (fun x => (ordV x ⟨a1_0, a1_1, a1_2, a1_3⟩).isSome) = true then ((impl_IsScore.f k (l0.take (l0.findIdx (notB ⟨a1_0, a1_1, a1_2, a1_3⟩)) ++ [⟨a1_0, a1_1, a1_2, a1_3⟩] ++ l0.drop (l0.findIdx (notB ⟨a1_0, a1_1, a1_2, a1_3⟩)))).bind fun s => (if s = true then (some (l0.take (l0.findIdx (notB ⟨a1_0, a1_1, a1_2, a1_3⟩)) ++ [⟨a1_0, a1_1, a1_2, a1_3⟩] ++ l0.drop (l0.findIdx (notB ⟨a1_0, a1_1, a1_2, a1_3⟩)), true)) else (some (l0, false)))) else (none)
set_option maxHeartbeats 8000000 in
set_option maxRecDepth 100000 in
theorem impl_PutEvent.calls (k : Nat) (A0 : Option Addr) (c0 : Nat) (l0 : List (S26)) (a1_0 : Int) (a1_1 : Int) (a1_2 : Int) (a1_3 : Int) (r1 : List (S26)) (r2 : Bool) (w : World) (hr0 : Kd.C k26 w A0 l0.length l0) (hc0 : l0.length ≤ c0) (h : impl_PutEvent.f k l0 a1_0 a1_1 a1_2 a1_3 = some (r1, r2)) :
  Calls Try.prog 12 #[.slice A0 l0.length c0, .agg #[.int .i64 a1_0, .int .i64 a1_1, .int .i64 a1_2, .int .i64 a1_3]] w fun e w' => ∃ v0_ : Value, e = .returned (.tuple #[v0_, .bool r2]) ∧ Kd.R k26 26 w' w.heap.size (fun _ => True) v0_ r1 ∧ Below w.heap.size w w' := by
 have HR0 := Aside0.mk hr0
 have HC0 := Aside0.mk hc0
 clear hr0 hc0
 have HW := Aside0.mk (Below.refl w.heap.size w)
 unfold impl_PutEvent.f at h
 by_cases hl : l0.length < 4000000000000 ∧ l0.all (fun x => (ordV x ⟨a1_0, a1_1, a1_2, a1_3⟩).isSome) = true
 ·
  rw [if_pos hl] at h
  have HL := Aside0.mk hl.1
  have HS : Aside0 (∀ x ∈ l0, (ordV x ⟨a1_0, a1_1, a1_2, a1_3⟩).isSome = true) := ⟨List.all_eq_true.1 hl.2⟩
  have hcl : impl_Event_83.f l0 = some l0 := by unfold impl_Event_83.f; simp only [Option.bind_some, List.length_nil, List.nil_append]; rw [if_pos (by omega)]
  have HCL := Aside0.mk hcl
  clear hl hcl
  obtain ⟨i, hi⟩ : ∃ i, i = l0.findIdx (notB ⟨a1_0, a1_1, a1_2, a1_3⟩) := ⟨_, rfl⟩
  have hil : i ≤ l0.length := by rw [hi]; exact List.findIdx_le_length
  have hpo : (i < l0.length ∧ poIdx ⟨a1_0, a1_1, a1_2, a1_3⟩ l0 = (i : Int)) ∨ (i = l0.length ∧ poIdx ⟨a1_0, a1_1, a1_2, a1_3⟩ l0 = -1) := by
   unfold poIdx
   rw [← hi]
   by_cases hh : i < l0.length
   ·
    exact .inl ⟨hh, if_pos hh⟩
   ·
    exact .inr ⟨by omega, if_neg hh⟩
  rw [← hi] at h
  clear hi
  obtain ⟨s, as_, h⟩ := Option.bind_eq_some_iff.mp h
  have AS := Aside0.mk as_
  have HIL := Aside0.mk hil
  clear as_ hil
  obtain ⟨p, hp, hpp⟩ : ∃ p, poIdx ⟨a1_0, a1_1, a1_2, a1_3⟩ l0 = p ∧ ((p = (i : Int) ∧ decide (p < 0) = false) ∨ (p = -1 ∧ i = l0.length)) := by
   rcases hpo with ⟨h1, h2⟩ | ⟨h1, h2⟩
   ·
    exact ⟨_, h2, .inl ⟨rfl, decide_eq_false (by omega)⟩⟩
   ·
    exact ⟨_, h2, .inr ⟨rfl, h1⟩⟩
  have HP := Aside0.mk hp
  clear hpo hp
  go_enter Try.func12, Try.ntmps12
  go_upto_if 12 with (first | ((with_reducible refine gate_dst (N := 3) rfl ?_); refine box_event ?hg (N := 3) ?hd (cs := #[.int .i64 a1_0, .int .i64 a1_1, .int .i64 a1_2, .int .i64 a1_3]) (t := 26) ?hr ?_; (case hd => rfl); (case hg => rfl); (case hr => first | (go_simp; done) | (go_simp; rfl)); intro gv hg w3 hbv hb; have n0_ := Aside0.mk (below_step (by repeat (first | (with_reducible first | exact HW.out | apply below_alloc | apply pw_below_drewN | apply below_drew1) | exact HW.out)) hb); clear HW; have HW := n0_; clear n0_; have BV := Aside0.mk hbv; clear hb hg hbv) | (go_at_call 79; (refine (po_index ⟨a1_0, a1_1, a1_2, a1_3⟩ gv A0 c0 l0 _ ?s1 ?s2 ?s3 HS.out).mono ?_); (case s1 => repeat (first | exact (Kd.C_below HR0.out HW.out) | (with_reducible refine Kd.C_alloc ?_ _) | (with_reducible refine Kd.C_drewN ?_ _) | (with_reducible refine Kd.C_drew ?_))); (case s2 => have := HL.out; omega); (case s3 => (with_reducible repeat (first | refine blk_drewN ?_ _ | refine blk_drew ?_ | refine blk_alloc ?_ _)); exact BV.out); rintro r w5 ⟨rfl, hb⟩; have n0_ := Aside0.mk (below_step (by repeat (first | (with_reducible first | exact HW.out | apply below_alloc | apply pw_below_drewN | apply below_drew1) | exact HW.out)) hb); have n1_ := Aside0.mk (blk_below (by (with_reducible repeat (first | refine blk_drewN ?_ _ | refine blk_drew ?_ | refine blk_alloc ?_ _)); exact BV.out) hb); clear HW; clear BV; have HW := n0_; have BV := n1_; clear n0_ n1_ hb; rw [HP.out]))
  go_cut [6] (fun v6 wc => v6 = .int .i64 (i : Int) ∧ Aside0 (wc.heap[gv]? = some (.cells #[.int .i64 a1_0, .int .i64 a1_1, .int .i64 a1_2, .int .i64 a1_3] 26 (0, 0))) ∧ Aside0 (Below w.heap.size w wc))
  case first =>
   rcases hpp with ⟨rfl, hpd⟩ | ⟨rfl, rfl⟩
   ·
    go_wp2
    go_meet
    case rel => exact ⟨by first | rfl | (simp; done), ⟨by (with_reducible repeat (first | refine blk_drewN ?_ _ | refine blk_drew ?_ | refine blk_alloc ?_ _)); exact BV.out⟩, ⟨by repeat (first | (with_reducible first | exact HW.out | apply below_alloc | apply pw_below_drewN | apply below_drew1) | exact HW.out)⟩⟩
   ·
    go_wp2
    go_meet
    case rel => exact ⟨by first | rfl | (simp; done), ⟨by (with_reducible repeat (first | refine blk_drewN ?_ _ | refine blk_drew ?_ | refine blk_alloc ?_ _)); exact BV.out⟩, ⟨by repeat (first | (with_reducible first | exact HW.out | apply below_alloc | apply pw_below_drewN | apply below_drew1) | exact HW.out)⟩⟩
  case rest =>
   obtain ⟨rfl, BV, HW⟩ := hcut
   go_upto_region 4 with (fail)
   go_cut [7] (fun v7 wc2 => Aside0 (Kd.R k26 26 wc2 w.heap.size (fun _ => True) v7 (l0.take i ++ [⟨a1_0, a1_1, a1_2, a1_3⟩] ++ l0.drop i)) ∧ Aside0 (Below w.heap.size w wc2))
   case first =>
    have mixed : Try.prog.follows Departure.mixedOrders = true := by kernel_rfl
    have e53 : ∀ args w, (callFunc 83 args).run Try.prog w = .ok (.enter 83 args) w := enters_of Try.func83 (by kernel_rfl) rfl
    have e60 : ∀ args w, (callFunc 82 args).run Try.prog w = .ok (.enter 82 args) w := enters_of Try.func82 (by kernel_rfl) rfl
    have HC1 : Aside0 (Below w.heap.size w wc.drew) := ⟨below_drew1 HW.out⟩
    have HC2 : Aside0 (Below w.heap.size w wc) := ⟨HW.out⟩
    have hcv0 : wc.cell? ⟨gv, 0, none⟩ = some (.int .i64 a1_0) := (blk_cell BV.out 0).trans rfl
    have hcv1 : wc.cell? ⟨gv, 1, none⟩ = some (.int .i64 a1_1) := (blk_cell BV.out 1).trans rfl
    have hcv2 : wc.cell? ⟨gv, 2, none⟩ = some (.int .i64 a1_2) := (blk_cell BV.out 2).trans rfl
    have hcv3 : wc.cell? ⟨gv, 3, none⟩ = some (.int .i64 a1_3) := (blk_cell BV.out 3).trans rfl
    go_region_with_o (first | (go_at_call 83; (refine (impl_Event_83.calls _ _ l0 l0 _ ?side1 ?side2 HCL.out).mono ?_); (case side1 => repeat (first | exact (Kd.C_below HR0.out HW.out) | (with_reducible refine Kd.C_alloc ?_ _) | (with_reducible refine Kd.C_drewN ?_ _) | (with_reducible refine Kd.C_drew ?_))); (case side2 => exact HC0.out); rintro r w7 ⟨v7, rfl, ho, hb⟩; have HOr := Aside0.mk ho; have HBc := Aside0.mk hb; have n0_ := Aside0.mk (Kd.R_lower ho (below_size (by repeat (first | (with_reducible first | exact HW.out | apply below_alloc | apply pw_below_drewN | apply below_drew1) | exact HW.out)))); have n1_ := Aside0.mk (below_step (by repeat (first | (with_reducible first | exact HW.out | apply below_alloc | apply pw_below_drewN | apply below_drew1) | exact HW.out)) hb); have n2_ := Aside0.mk (blk_below (g := gv) (o := .cells #[.int .i64 a1_0, .int .i64 a1_1, .int .i64 a1_2, .int .i64 a1_3] 26 (0, 0)) (by (with_reducible repeat (first | refine blk_drewN ?_ _ | refine blk_drew ?_ | refine blk_alloc ?_ _)); exact BV.out) hb); clear HW; clear BV; have HO := n0_; have HW := n1_; have BV := n2_; clear n0_ n1_ n2_ hb ho hcv0 hcv1 hcv2 hcv3; have hcv0 : w7.cell? ⟨gv, 0, none⟩ = some (.int .i64 a1_0) := (blk_cell BV.out 0).trans rfl; have hcv1 : w7.cell? ⟨gv, 1, none⟩ = some (.int .i64 a1_1) := (blk_cell BV.out 1).trans rfl; have hcv2 : w7.cell? ⟨gv, 2, none⟩ = some (.int .i64 a1_2) := (blk_cell BV.out 2).trans rfl; have hcv3 : w7.cell? ⟨gv, 3, none⟩ = some (.int .i64 a1_3) := (blk_cell BV.out 3).trans rfl) | (go_at_call 82; (refine (pe_insert w.heap.size _ i v7 l0 ⟨a1_0, a1_1, a1_2, a1_3⟩ _ ?s1 ?s2 ?s3 HIL.out ?s5 ?s6).mono ?_); (case s1 => (with_reducible repeat (first | apply Kd.R_alloc | apply Kd.R_drewN | apply Kd.R_drew)); exact HO.out); (case s2 => refine R_mk4 (x := [⟨a1_0, a1_1, a1_2, a1_3⟩]) #[.int .i64 a1_0, .int .i64 a1_1, .int .i64 a1_2, .int .i64 a1_3] ?h1 ?h2 (Nat.le_refl _) (by unfold maxLen; omega) rfl rfl; (case h1 => first | exact blk_drew (blk_new _ _) | exact blk_new _ _ | exact blk_below (blk_drew (blk_new _ _)) HBc.out | exact blk_below (blk_new _ _) HBc.out); (case h2 => first | exact below_size HC1.out | exact below_size HC2.out | exact below_size (by repeat (first | (with_reducible first | exact HW.out | apply below_alloc | apply pw_below_drewN | apply below_drew1) | exact HW.out)))); (case s3 => intro hh; first | (have := Kd.R_lt HO.out _ hh.symm; omega) | (exact absurd (Kd.R_base HOr.out _ hh.symm) (Nat.not_le.2 (lt_new1 _ _))) | (exact absurd (Kd.R_base HOr.out _ hh.symm) (Nat.not_le.2 (lt_new0 _ _)))); (case s5 => have := HL.out; omega); (case s6 => exact below_size (by repeat (first | (with_reducible first | exact HW.out | apply below_alloc | apply pw_below_drewN | apply below_drew1) | exact HW.out))); rintro r w8 ⟨v8, rfl, ho8, hb8⟩; have HO8 := Aside0.mk ho8; have HB8 := Aside0.mk (Below.trans (by repeat (first | (with_reducible first | exact HW.out | apply below_alloc | apply pw_below_drewN | apply below_drew1) | exact HW.out)) hb8); clear ho8 hb8))
    all_goals (go_wp2; go_meet; case rel => exact ⟨⟨HO8.out⟩, ⟨HB8.out⟩⟩)
   case rest =>
    clear BV HW
    obtain ⟨HO, HW⟩ := hcut
    obtain ⟨o9, ho9⟩ : ∃ o9 : List S26, o9 = (l0.take i ++ [⟨a1_0, a1_1, a1_2, a1_3⟩] ++ l0.drop i) := ⟨_, rfl⟩
    rw [← ho9] at HO AS h
    clear ho9 HS HIL HP hpp
    obtain ⟨A9, c9, e9⟩ := Kd.R_slice HO.out
    subst e9
    have hl9 := (Kd.R_reads' HO.out).1
    cases s with
    | true =>
     simp only [if_true, Option.some.injEq, Prod.mk.injEq] at h
     obtain ⟨rfl, rfl⟩ := h
     go_wp2_with (first | (go_at_call 14; (refine (impl_IsScore.calls k _ _ o9 true _ ?side1 ?side2 AS.out).mono ?_); (case side1 => exact (Kd.R_reads' HO.out).2.2); (case side2 => exact (Kd.R_reads' HO.out).2.1); rintro r w9 ⟨rfl, hb⟩; have n0_ := Aside0.mk (Kd.R_below (by (with_reducible repeat (first | apply Kd.R_alloc | apply Kd.R_drewN | apply Kd.R_drew)); exact HO.out) hb); have n1_ := Aside0.mk (below_step (by repeat (first | (with_reducible first | exact HW.out | apply below_alloc | apply pw_below_drewN | apply below_drew1) | exact HW.out)) hb); clear HO; clear HW; have HO := n0_; have HW := n1_; clear n0_ n1_ hb))
     go_ret2
     exact ⟨_, by first | rfl | (simp; done), by (with_reducible repeat (first | apply Kd.R_alloc | apply Kd.R_drewN | apply Kd.R_drew)); exact HO.out, by repeat (first | (with_reducible first | exact HW.out | apply below_alloc | apply pw_below_drewN | apply below_drew1) | exact HW.out)⟩
    | false =>
     simp only [Bool.false_eq_true, if_false, Option.some.injEq, Prod.mk.injEq] at h
     obtain ⟨rfl, rfl⟩ := h
     go_wp2_with (first | (go_at_call 14; (refine (impl_IsScore.calls k _ _ o9 false _ ?side1 ?side2 AS.out).mono ?_); (case side1 => exact (Kd.R_reads' HO.out).2.2); (case side2 => exact (Kd.R_reads' HO.out).2.1); rintro r w9 ⟨rfl, hb⟩; have n0_ := Aside0.mk (Kd.R_below (by (with_reducible repeat (first | apply Kd.R_alloc | apply Kd.R_drewN | apply Kd.R_drew)); exact HO.out) hb); have n1_ := Aside0.mk (below_step (by repeat (first | (with_reducible first | exact HW.out | apply below_alloc | apply pw_below_drewN | apply below_drew1) | exact HW.out)) hb); clear HO; clear HW; have HO := n0_; have HW := n1_; clear n0_ n1_ hb) | (go_at_call 83; (refine (impl_Event_83.calls _ _ l0 l0 _ ?side1 ?side2 HCL.out).mono ?_); (case side1 => repeat (first | exact (Kd.C_below HR0.out HW.out) | (with_reducible refine Kd.C_alloc ?_ _) | (with_reducible refine Kd.C_drewN ?_ _) | (with_reducible refine Kd.C_drew ?_))); (case side2 => exact HC0.out); rintro r w7 ⟨v7, rfl, ho, hb⟩; have HO7 := Aside0.mk (Kd.R_lower ho (below_size (by repeat (first | (with_reducible first | exact HW.out | apply below_alloc | apply pw_below_drewN | apply below_drew1) | exact HW.out)))); have n1_ := Aside0.mk (below_step (by repeat (first | (with_reducible first | exact HW.out | apply below_alloc | apply pw_below_drewN | apply below_drew1) | exact HW.out)) hb); clear HW; have HW := n1_; clear n1_ hb ho))
     go_ret2
     exact ⟨_, by first | rfl | (simp; done), by (with_reducible repeat (first | apply Kd.R_alloc | apply Kd.R_drewN | apply Kd.R_drew)); exact HO7.out, by repeat (first | (with_reducible first | exact HW.out | apply below_alloc | apply pw_below_drewN | apply below_drew1) | exact HW.out)⟩
 ·
  rw [if_neg hl] at h
  exact absurd h (by simp)
end Go.Proofs.Ytbhlmeghbfmgiaa.F

namespace Go.Proofs.Ytbhlmeghbfmgiaa.F
open Go.RowKit Go.Proofs.YtbhlmeghbfmgiaaW.PrintWords Go.Proofs.YtbhlmeghbfmgiaaW.PrintLast Go.Proofs.YtbhlmeghbfmgiaaW.PrintMore
attribute [local go_sem] max2_int min2_int max_two min_two max_three min_three max_four min_four
set_option linter.unusedVariables false
set_option linter.unusedSimpArgs false
attribute [local go_sem high] eqA26
def impl_Event_87.l0 : Nat → List (S26) → List (S26) → Int → Int → Option (Bool)
 | 0, _, _, _, _ => none
 | k + 1, x0, x1, x12, x13 => if x13 < x12 then (if 0 ≤ x13 then (if x13 < (x0.length : Int) then (if x13 < (x1.length : Int) then (if (!(((rd_T26 x0 x13).f0) == ((rd_T26 x1 x13).f0)) || (!(((rd_T26 x0 x13).f1) == ((rd_T26 x1 x13).f1)) || (!(((rd_T26 x0 x13).f2) == ((rd_T26 x1 x13).f2)) || (!(((rd_T26 x0 x13).f3) == ((rd_T26 x1 x13).f3)))))) = true then (some false) else (impl_Event_87.l0 k x0 x1 x12 (wrap64 (x13 + 1)))) else (none)) else (none)) else (none)) else (some true)
def impl_Event_87.f (k : Nat) (l0 : List (S26)) (l1 : List (S26)) : Option (Bool) := if (l0.length : Int) = (l1.length : Int) then (impl_Event_87.l0 k l0 l1 (l0.length : Int) 0) else (some false)
set_option maxHeartbeats 8000000 in
set_option maxRecDepth 100000 in
theorem impl_Event_87.calls (k : Nat) (A0 : Option Addr) (c0 : Nat) (l0 : List (S26)) (A1 : Option Addr) (c1 : Nat) (l1 : List (S26)) (r : Bool) (w : World) (hr0 : Kd.C k26 w A0 l0.length l0) (hc0 : l0.length ≤ c0) (hr1 : Kd.C k26 w A1 l1.length l1) (hc1 : l1.length ≤ c1) (h : impl_Event_87.f k l0 l1 = some r) :
  Calls Try.prog 87 #[.slice A0 l0.length c0, .slice A1 l1.length c1] w fun e w' => e = .returned (.bool r) ∧ Drawn0 w w' := by
 have hu26 := Try.underlying26
 have HR0 := Aside0.mk hr0
 have HC0 := Aside0.mk hc0
 clear hr0 hc0
 have HR1 := Aside0.mk hr1
 have HC1 := Aside0.mk hc1
 clear hr1 hc1
 have H : (if (l0.length : Int) = (l1.length : Int) then (impl_Event_87.l0 k l0 l1 (l0.length : Int) 0) else (some false)) = some r := h
 clear h
 by_cases c3 : (l0.length : Int) = (l1.length : Int)
 ·
  rw [if_pos c3] at H
  have c3b0 : ((l0.length : Int) == (l1.length : Int)) = true := beq_iff_eq.mpr c3
  have c3b1 : ((l0.length : Int) != (l1.length : Int)) = false := bne_eq_false_iff_eq.mpr c3
  have c3b2 : (l0.length == l1.length) = true := by first | simpa using c3 | (simp at c3 ⊢; omega)
  clear c3
  have H' := Aside0.mk H
  clear H
  go_enter Try.func87, Try.ntmps87
  go_wp2
  repeat (go_quiet (fail); try go_wp2)
  go_loopg [13] k (fun kq v13 w' => ∃ (x13_1 : Int), v13 = .int .i64 x13_1 ∧ Aside0 (impl_Event_87.l0 kq l0 l1 (l0.length : Int) x13_1 = some r) ∧ Aside0 (kq ≤ k) ∧ Drawn0 w w')
  case atStart => exact ⟨(0), (by first | rfl | (simp; done) | (simp [*]; done)), H', ⟨Nat.le_refl _⟩, by repeat (first | exact Drawn0.refl _ | apply Drawn0.step)⟩
  case round =>
   clear H'
   try clear c1
   try clear p2
   try clear c3
   try clear c3b0
   try clear c3b1
   try clear c3b2
   obtain ⟨x13_1, rfl, HA, HK1, ⟨m1, rfl⟩⟩ := hrel
   cases gk with
   | zero => exact absurd HA.out (by simp [impl_Event_87.l0])
   | succ k1 =>
    have H := HA.out
    clear HA
    simp only [impl_Event_87.l0] at H
    by_cases c4 : x13_1 < (l0.length : Int)
    ·
     rw [if_pos c4] at H
     have c4b0 : decide (x13_1 < (l0.length : Int)) = true := decide_eq_true c4
     clear c4
     by_cases c5 : 0 ≤ x13_1
     ·
      rw [if_pos c5] at H
      have c5b0 : decide (0 ≤ x13_1) = true := decide_eq_true c5
      clear c5
      by_cases c6 : x13_1 < (l0.length : Int)
      ·
       rw [if_pos c6] at H
       have c6b0 : decide (x13_1 < (l0.length : Int)) = true := decide_eq_true c6
       clear c6
       by_cases c7 : x13_1 < (l1.length : Int)
       ·
        rw [if_pos c7] at H
        have c7b0 : decide (x13_1 < (l1.length : Int)) = true := decide_eq_true c7
        clear c7
        by_cases c8 : (!(((rd_T26 l0 x13_1).f0) == ((rd_T26 l1 x13_1).f0)) || (!(((rd_T26 l0 x13_1).f1) == ((rd_T26 l1 x13_1).f1)) || (!(((rd_T26 l0 x13_1).f2) == ((rd_T26 l1 x13_1).f2)) || (!(((rd_T26 l0 x13_1).f3) == ((rd_T26 l1 x13_1).f3)))))) = true
        ·
         rw [if_pos c8] at H
         have c8b0 : (!(((rd_T26 l0 x13_1).f0) == ((rd_T26 l1 x13_1).f0)) || (!(((rd_T26 l0 x13_1).f1) == ((rd_T26 l1 x13_1).f1)) || (!(((rd_T26 l0 x13_1).f2) == ((rd_T26 l1 x13_1).f2)) || (!(((rd_T26 l0 x13_1).f3) == ((rd_T26 l1 x13_1).f3)))))) = true := c8
         clear c8
         obtain rfl := Option.some.inj H
         have p341 : 0 ≤ (x13_1 : Int) := of_decide_eq_true (by first | (with_reducible assumption) | assumption)
         have q341 : x13_1 < (l0.length : Int) := of_decide_eq_true (by first | (with_reducible assumption) | assumption)
         obtain ⟨ad341, e341, hx341_0, hx341_1, hx341_2, hx341_3⟩ := at_T26 HR0.out x13_1 p341 q341
         cases e341
         replace p341 := eq_true p341
         replace q341 := eq_true q341
         have p342 : 0 ≤ (x13_1 : Int) := of_decide_eq_true (by first | (with_reducible assumption) | assumption)
         have q342 : x13_1 < (l1.length : Int) := of_decide_eq_true (by first | (with_reducible assumption) | assumption)
         obtain ⟨ad342, e342, hx342_0, hx342_1, hx342_2, hx342_3⟩ := at_T26 HR1.out x13_1 p342 q342
         cases e342
         replace p342 := eq_true p342
         replace q342 := eq_true q342
         go_wp2
         repeat (go_quiet (fail); try go_wp2)
         go_ret
         exact ⟨by first | rfl | (simp; done) | (simp [*]; done), by repeat (first | exact Drawn0.refl _ | apply Drawn0.step)⟩
        ·
         rw [if_neg c8] at H
         have c8b0 : (!(((rd_T26 l0 x13_1).f0) == ((rd_T26 l1 x13_1).f0)) || (!(((rd_T26 l0 x13_1).f1) == ((rd_T26 l1 x13_1).f1)) || (!(((rd_T26 l0 x13_1).f2) == ((rd_T26 l1 x13_1).f2)) || (!(((rd_T26 l0 x13_1).f3) == ((rd_T26 l1 x13_1).f3)))))) = false := by simpa using c8
         clear c8
         have H' := Aside0.mk H
         clear H
         have p341 : 0 ≤ (x13_1 : Int) := of_decide_eq_true (by first | (with_reducible assumption) | assumption)
         have q341 : x13_1 < (l0.length : Int) := of_decide_eq_true (by first | (with_reducible assumption) | assumption)
         obtain ⟨ad341, e341, hx341_0, hx341_1, hx341_2, hx341_3⟩ := at_T26 HR0.out x13_1 p341 q341
         cases e341
         replace p341 := eq_true p341
         replace q341 := eq_true q341
         have p342 : 0 ≤ (x13_1 : Int) := of_decide_eq_true (by first | (with_reducible assumption) | assumption)
         have q342 : x13_1 < (l1.length : Int) := of_decide_eq_true (by first | (with_reducible assumption) | assumption)
         obtain ⟨ad342, e342, hx342_0, hx342_1, hx342_2, hx342_3⟩ := at_T26 HR1.out x13_1 p342 q342
         cases e342
         replace p342 := eq_true p342
         replace q342 := eq_true q342
         go_wp2
         repeat (go_quiet (fail); try go_wp2)
         go_roundg k1
         case measure => have := HK1.out; omega
         case rel => exact ⟨(wrap64 (x13_1 + 1)), (by first | rfl | (simp; done) | (simp [*]; done)), H', ⟨by have := HK1.out; omega⟩, by repeat (first | exact Drawn0.refl _ | apply Drawn0.step)⟩
       ·
        rw [if_neg c7] at H
        exact absurd H (by simp)
      ·
       rw [if_neg c6] at H
       exact absurd H (by simp)
     ·
      rw [if_neg c5] at H
      exact absurd H (by simp)
    ·
     rw [if_neg c4] at H
     have c4b0 : decide (x13_1 < (l0.length : Int)) = false := decide_eq_false c4
     clear c4
     obtain rfl := Option.some.inj H
     go_wp2
     repeat (go_quiet (fail); try go_wp2)
     go_ret
     exact ⟨by first | rfl | (simp; done) | (simp [*]; done), by repeat (first | exact Drawn0.refl _ | apply Drawn0.step)⟩
 ·
  rw [if_neg c3] at H
  have c3b0 : ((l0.length : Int) == (l1.length : Int)) = false := beq_eq_false_iff_ne.mpr c3
  have c3b1 : ((l0.length : Int) != (l1.length : Int)) = true := bne_iff_ne.mpr c3
  have c3b2 : (l0.length == l1.length) = false := by first | simpa using c3 | (simp at c3 ⊢; omega)
  obtain rfl := Option.some.inj H
  go_enter Try.func87, Try.ntmps87
  go_wp2
  repeat (go_quiet (fail); try go_wp2)
  go_ret
  exact ⟨by first | rfl | (simp; done) | (simp [*]; done), by repeat (first | exact Drawn0.refl _ | apply Drawn0.step)⟩
end Go.Proofs.Ytbhlmeghbfmgiaa.F

namespace Go.Proofs.Ytbhlmeghbfmgiaa.F
open Go.RowKit Go.Proofs.YtbhlmeghbfmgiaaW.PrintWords Go.Proofs.YtbhlmeghbfmgiaaW.PrintLast Go.Proofs.YtbhlmeghbfmgiaaW.PrintMore
attribute [local go_sem] max2_int min2_int max_two min_two max_three min_three max_four min_four
set_option linter.unusedVariables false
set_option linter.unusedSimpArgs false
def impl_EqualScores.f (k : Nat) (l0 : List (S26)) (l1 : List (S26)) : Option (Bool) := (impl_Event_87.f k l0 l1).bind fun t343 => (some t343)
set_option maxHeartbeats 8000000 in
set_option maxRecDepth 100000 in
theorem impl_EqualScores.calls (k : Nat) (A0 : Option Addr) (c0 : Nat) (l0 : List (S26)) (A1 : Option Addr) (c1 : Nat) (l1 : List (S26)) (r : Bool) (w : World) (hr0 : Kd.C k26 w A0 l0.length l0) (hc0 : l0.length ≤ c0) (hr1 : Kd.C k26 w A1 l1.length l1) (hc1 : l1.length ≤ c1) (h : impl_EqualScores.f k l0 l1 = some r) :
  Calls Try.prog 15 #[.slice A0 l0.length c0, .slice A1 l1.length c1] w fun e w' => e = .returned (.bool r) ∧ Drawn0 w w' := by
 have HR0 := Aside0.mk hr0
 have HC0 := Aside0.mk hc0
 clear hr0 hc0
 have HR1 := Aside0.mk hr1
 have HC1 := Aside0.mk hc1
 clear hr1 hc1
 have H : ((impl_Event_87.f k l0 l1).bind fun t343 => (some t343)) = some r := h
 clear h
 replace H := Option.bind_eq_some_iff.mp H
 obtain ⟨t343, A30, H⟩ := H
 try dsimp only at H
 have A3 := Aside0.mk A30
 clear A30
 obtain rfl := Option.some.inj H
 go_enter Try.func15, Try.ntmps15
 go_wp2_with (first | ((with_reducible refine gate_callee (f := 87) rfl ?_); refine goesL_ (some 7) rfl rfl Try.func87 (by kernel_rfl) rfl #[.slice A0 l0.length c0, .slice A1 l1.length c1] rfl (by (try simp only [List.map_toArray, List.map_cons, List.map_nil]); first | done | rfl | (simp only [List.length_drop, List.length_take]; rfl)) ?_; (with_reducible refine (impl_Event_87.calls k _ _ l0 _ _ l1 t343 _ ?side1 ?side2 ?side3 ?side4 A3.out).mono ?_); (case side1 => repeat (first | exact HR0.out | (with_reducible refine Kd.C_alloc ?_ _) | (with_reducible refine Kd.C_drewN ?_ _) | (with_reducible refine Kd.C_drew ?_))); (case side2 => exact HC0.out); (case side3 => repeat (first | exact HR1.out | (with_reducible refine Kd.C_alloc ?_ _) | (with_reducible refine Kd.C_drewN ?_ _) | (with_reducible refine Kd.C_drew ?_))); (case side4 => exact HC1.out); rintro e w' ⟨rfl, ⟨nd, rfl⟩⟩; refine ⟨_, rfl, ?_⟩))
 go_ret
 exact ⟨by first | rfl | (simp; done) | (simp [*]; done), by repeat (first | exact Drawn0.refl _ | apply Drawn0.step)⟩
end Go.Proofs.Ytbhlmeghbfmgiaa.F

namespace Go.Proofs.Ytbhlmeghbfmgiaa.F
open Go.RowKit Go.Proofs.YtbhlmeghbfmgiaaW.PrintWords Go.Proofs.YtbhlmeghbfmgiaaW.PrintLast Go.Proofs.YtbhlmeghbfmgiaaW.PrintMore
attribute [local go_sem] max2_int min2_int max_two min_two max_three min_three max_four min_four
set_option linter.unusedVariables false
set_option linter.unusedSimpArgs false
def impl_EndOf.l0 : Nat → Int → List (S26) → Int → Int → Option (Int)
 | 0, _, _, _, _ => none
 | k + 1, x3, x8, x9, x10 => if x10 < x9 then (if 0 ≤ x10 then (if x10 < (x8.length : Int) then (impl_EndOf.l0 k (mx x3 (wrap64 (((rd_T26 x8 x10).f0) + ((rd_T26 x8 x10).f1)))) x8 x9 (wrap64 (x10 + 1))) else (none)) else (none)) else (some x3)
def impl_EndOf.f (k : Nat) (l0 : List (S26)) : Option (Int) := (impl_IsScore.f k l0).bind fun t344 => (if t344 = true then (impl_EndOf.l0 k 0 l0 (l0.length : Int) 0) else (some 0))
set_option maxHeartbeats 8000000 in
set_option maxRecDepth 100000 in
theorem impl_EndOf.calls (k : Nat) (A0 : Option Addr) (c0 : Nat) (l0 : List (S26)) (r : Int) (w : World) (hr0 : Kd.C k26 w A0 l0.length l0) (hc0 : l0.length ≤ c0) (h : impl_EndOf.f k l0 = some r) :
  Calls Try.prog 16 #[.slice A0 l0.length c0] w fun e w' => e = .returned (.int .i64 r) ∧ Below w.heap.size w w' := by
 have hu26 := Try.underlying26
 have HR0 := Aside0.mk hr0
 have HC0 := Aside0.mk hc0
 clear hr0 hc0
 have HB := Aside0.mk (Below.refl w.heap.size w)
 have H : ((impl_IsScore.f k l0).bind fun t344 => (if t344 = true then (impl_EndOf.l0 k 0 l0 (l0.length : Int) 0) else (some 0))) = some r := h
 clear h
 replace H := Option.bind_eq_some_iff.mp H
 obtain ⟨t344, A20, H⟩ := H
 try dsimp only at H
 have A2 := Aside0.mk A20
 clear A20
 by_cases c3 : t344 = true
 ·
  subst c3
  rw [if_pos rfl] at H
  have H' := Aside0.mk H
  clear H
  go_enter Try.func16, Try.ntmps16
  go_wp2_with (first | ((with_reducible refine gate_callee (f := 14) rfl ?_); refine goesL_ (some 7) rfl rfl Try.func14 (by kernel_rfl) rfl #[.slice A0 l0.length c0] rfl (by (try simp only [List.map_toArray, List.map_cons, List.map_nil]); first | done | rfl | (simp only [List.length_drop, List.length_take]; rfl)) ?_; (with_reducible refine (impl_IsScore.calls k _ _ l0 true _ ?side1 ?side2 A2.out).mono ?_); (case side1 => repeat (first | exact HR0.out | (with_reducible refine Kd.C_alloc ?_ _) | (with_reducible refine Kd.C_drewN ?_ _) | (with_reducible refine Kd.C_drew ?_))); (case side2 => exact HC0.out); rintro e w4 ⟨rfl, hb⟩; refine ⟨_, rfl, ?_⟩; have n0_ := Aside0.mk (below_step (by repeat (first | (with_reducible first | exact HB.out | apply below_alloc | apply pw_below_drewN | apply below_drew1) | exact HB.out)) hb); clear HB; have HB := n0_; clear n0_; (try clear hb); (try clear hb2); (try clear hk); (try clear hi)))
  go_loopg [3, 10] k (fun kq v3 v10 w' => ∃ (x3_1 : Int) (x10_1 : Int), v3 = .int .i64 x3_1 ∧ v10 = .int .i64 x10_1 ∧ Aside0 (impl_EndOf.l0 kq x3_1 l0 (l0.length : Int) x10_1 = some r) ∧ Aside0 (kq ≤ k) ∧ Aside0 (Below w.heap.size w w'))
  case atStart => exact ⟨(0), (0), (by first | rfl | (simp; done) | (simp [*]; done)), (by first | rfl | (simp; done) | (simp [*]; done)), H', ⟨Nat.le_refl _⟩, ⟨by repeat (first | (with_reducible first | exact HB.out | apply below_alloc | apply pw_below_drewN | apply below_drew1) | exact HB.out)⟩⟩
  case round =>
   clear H'
   try clear c1
   try clear p2
   try clear c3
   obtain ⟨x3_1, x10_1, rfl, rfl, HA, HK1, HB⟩ := hrel
   cases gk with
   | zero => exact absurd HA.out (by simp [impl_EndOf.l0])
   | succ k1 =>
    have H := HA.out
    clear HA
    simp only [impl_EndOf.l0] at H
    by_cases c5 : x10_1 < (l0.length : Int)
    ·
     rw [if_pos c5] at H
     have c5b0 : decide (x10_1 < (l0.length : Int)) = true := decide_eq_true c5
     clear c5
     by_cases c6 : 0 ≤ x10_1
     ·
      rw [if_pos c6] at H
      have c6b0 : decide (0 ≤ x10_1) = true := decide_eq_true c6
      clear c6
      by_cases c7 : x10_1 < (l0.length : Int)
      ·
       rw [if_pos c7] at H
       have c7b0 : decide (x10_1 < (l0.length : Int)) = true := decide_eq_true c7
       clear c7
       obtain ⟨ji8, hji8⟩ : ∃ j_ : Int, (mx x3_1 (wrap64 (((rd_T26 l0 x10_1).f0) + ((rd_T26 l0 x10_1).f1)))) = j_ := ⟨_, rfl⟩
       replace H : (impl_EndOf.l0 k1 ji8 l0 (l0.length : Int) (wrap64 (x10_1 + 1))) = some r := by first | (rw [hji8] at H; exact H) | (simp only [hji8] at H ⊢; exact H)
       have hji8_ : (if x3_1 < (wrap64 (((rd_T26 l0 x10_1).f0) + ((rd_T26 l0 x10_1).f1))) then (wrap64 (((rd_T26 l0 x10_1).f0) + ((rd_T26 l0 x10_1).f1))) else x3_1) = ji8 := hji8
       have H' := Aside0.mk H
       clear H
       have p345 : 0 ≤ (x10_1 : Int) := of_decide_eq_true (by first | (with_reducible assumption) | assumption)
       have q345 : x10_1 < (l0.length : Int) := of_decide_eq_true (by first | (with_reducible assumption) | assumption)
       obtain ⟨ad345, e345, hx345_0, hx345_1, hx345_2, hx345_3⟩ := at_T26 HR0.out x10_1 p345 q345
       cases e345
       replace hx345_0 := (HB.out.cell (World.block_lt_of_cell? w _ hx345_0)).trans hx345_0
       replace hx345_1 := (HB.out.cell (World.block_lt_of_cell? w _ hx345_1)).trans hx345_1
       replace hx345_2 := (HB.out.cell (World.block_lt_of_cell? w _ hx345_2)).trans hx345_2
       replace hx345_3 := (HB.out.cell (World.block_lt_of_cell? w _ hx345_3)).trans hx345_3
       replace p345 := eq_true p345
       replace q345 := eq_true q345
       go_wp2_with (first | ((with_reducible refine gate_dst (N := 5) rfl ?_); refine box_event ?hg (N := 5) ?hd (cs := #[.int .i64 0, .int .i64 0, .int .i64 0, .int .i64 0]) (t := 26) ?hr ?_; (case hd => rfl); (case hg => rfl); (case hr => first | (go_simp; done) | (go_simp; rfl)); intro gb346 hg w9 hbox hb; have n0_ := Aside0.mk (below_step (by repeat (first | (with_reducible first | exact HB.out | apply below_alloc | apply pw_below_drewN | apply below_drew1) | exact HB.out)) hb); have n1_ := Aside0.mk (hbox); have n2_ := Aside0.mk ((by rw [hg]; exact (below_size (by repeat (first | (with_reducible first | exact HB.out | apply below_alloc | apply pw_below_drewN | apply below_drew1) | exact HB.out))) : w.heap.size ≤ gb346)); have n3_ := Aside0.mk ((by rw [hg]; exact (below_size (by repeat (first | (with_reducible first | exact HB.out | apply below_alloc | apply pw_below_drewN | apply below_drew1) | exact HB.out))) : w.heap.size ≤ gb346)); clear HB; have HB := n0_; have BK346 := n1_; have GW346 := n2_; have GE346 := n3_; clear n0_ n1_ n2_ n3_; clear hb hbox hg; have hcz10_0 : w9.cell? ⟨gb346, 0, none⟩ = some (.int .i64 0) := (blk_cell BK346.out 0).trans rfl; have hcz10_1 : w9.cell? ⟨gb346, 1, none⟩ = some (.int .i64 0) := (blk_cell BK346.out 1).trans rfl; have hcz10_2 : w9.cell? ⟨gb346, 2, none⟩ = some (.int .i64 0) := (blk_cell BK346.out 2).trans rfl; have hcz10_3 : w9.cell? ⟨gb346, 3, none⟩ = some (.int .i64 0) := (blk_cell BK346.out 3).trans rfl; have hfz10_0 := blk_frozen BK346.out 0; have hfz10_1 := blk_frozen BK346.out 1; have hfz10_2 := blk_frozen BK346.out 2; have hfz10_3 := blk_frozen BK346.out 3))
       go_roundg k1
       case measure => have := HK1.out; omega
       case rel => exact ⟨(ji8), (wrap64 (x10_1 + 1)), (by first | rfl | (simp; done) | (simp only [← hji8] <;> (first | rfl | simp)) | (simp [*]; done)), (by first | rfl | (simp; done) | (simp [*]; done)), H', ⟨by have := HK1.out; omega⟩, ⟨by repeat (first | (with_reducible first | exact HB.out | apply below_alloc | apply pw_below_drewN | apply below_drew1 | refine below_set ?_ GE346.out) | exact HB.out)⟩⟩
      ·
       rw [if_neg c7] at H
       exact absurd H (by simp)
     ·
      rw [if_neg c6] at H
      exact absurd H (by simp)
    ·
     rw [if_neg c5] at H
     have c5b0 : decide (x10_1 < (l0.length : Int)) = false := decide_eq_false c5
     clear c5
     obtain rfl := Option.some.inj H
     go_wp2
     go_ret
     exact ⟨by first | rfl | (simp [errW_none, errW_some] <;> rfl) | (simp [*, errW_none, errW_some] <;> rfl), by repeat (first | (with_reducible first | exact HB.out | apply below_alloc | apply pw_below_drewN | apply below_drew1) | exact HB.out)⟩
 ·
  replace c3 := Bool.eq_false_iff.mpr c3
  subst c3
  rw [if_neg (show ¬ (false = true) by decide)] at H
  obtain rfl := Option.some.inj H
  go_enter Try.func16, Try.ntmps16
  go_wp2_with (first | ((with_reducible refine gate_callee (f := 14) rfl ?_); refine goesL_ (some 7) rfl rfl Try.func14 (by kernel_rfl) rfl #[.slice A0 l0.length c0] rfl (by (try simp only [List.map_toArray, List.map_cons, List.map_nil]); first | done | rfl | (simp only [List.length_drop, List.length_take]; rfl)) ?_; (with_reducible refine (impl_IsScore.calls k _ _ l0 false _ ?side1 ?side2 A2.out).mono ?_); (case side1 => repeat (first | exact HR0.out | (with_reducible refine Kd.C_alloc ?_ _) | (with_reducible refine Kd.C_drewN ?_ _) | (with_reducible refine Kd.C_drew ?_))); (case side2 => exact HC0.out); rintro e w11 ⟨rfl, hb⟩; refine ⟨_, rfl, ?_⟩; have n0_ := Aside0.mk (below_step (by repeat (first | (with_reducible first | exact HB.out | apply below_alloc | apply pw_below_drewN | apply below_drew1) | exact HB.out)) hb); clear HB; have HB := n0_; clear n0_; (try clear hb); (try clear hb2); (try clear hk); (try clear hi)))
  go_ret
  exact ⟨by first | rfl | (simp [errW_none, errW_some] <;> rfl) | (simp [*, errW_none, errW_some] <;> rfl), by repeat (first | (with_reducible first | exact HB.out | apply below_alloc | apply pw_below_drewN | apply below_drew1) | exact HB.out)⟩
end Go.Proofs.Ytbhlmeghbfmgiaa.F

namespace Go.Proofs.Ytbhlmeghbfmgiaa.F
open Go.RowKit Go.Proofs.YtbhlmeghbfmgiaaW.PrintWords Go.Proofs.YtbhlmeghbfmgiaaW.PrintLast Go.Proofs.YtbhlmeghbfmgiaaW.PrintMore
attribute [local go_sem] max2_int min2_int max_two min_two max_three min_three max_four min_four
set_option linter.unusedVariables false
set_option linter.unusedSimpArgs false
def laws_contains.l0 : Nat → List Int → Int → Int → Option (Bool)
 | 0, _, _, _ => none
 | k + 1, x0, x1, x5 => if x5 < (x0.length : Int) then (if 0 ≤ x5 then (if (rd x0 x5) = x1 then (some true) else (laws_contains.l0 k x0 x1 (wrap64 (x5 + 1)))) else (none)) else (some false)
def laws_contains.f (k : Nat) (l0 : List Int) (a1 : Int) : Option (Bool) := laws_contains.l0 k l0 a1 0
set_option maxHeartbeats 8000000 in
set_option maxRecDepth 100000 in
theorem laws_contains.calls (k : Nat) (A0 : Option Addr) (c0 : Nat) (l0 : List Int) (a1 : Int) (r : Bool) (w : World) (hr0 : Kd.C (Kd.int .i64) w A0 l0.length l0) (hc0 : l0.length ≤ c0) (h : laws_contains.f k l0 a1 = some r) :
  Calls Try.prog 17 #[.slice A0 l0.length c0, .int .i64 a1] w fun e w' => e = .returned (.bool r) ∧ Drawn0 w w' := by
 have HR0 := Aside0.mk hr0
 have HC0 := Aside0.mk hc0
 clear hr0 hc0
 have H : (laws_contains.l0 k l0 a1 0) = some r := h
 clear h
 have H' := Aside0.mk H
 clear H
 go_enter Try.func17, Try.ntmps17
 go_wp2
 go_loopg [5] k (fun kq v5 w' => ∃ (x5_1 : Int), v5 = .int .i64 x5_1 ∧ Aside0 (laws_contains.l0 kq l0 a1 x5_1 = some r) ∧ Aside0 (kq ≤ k) ∧ Drawn0 w w')
 case atStart => exact ⟨(0), (by first | rfl | (simp; done) | (simp [*]; done)), H', ⟨Nat.le_refl _⟩, by repeat (first | exact Drawn0.refl _ | apply Drawn0.step)⟩
 case round =>
  clear H'
  try clear c1
  try clear p2
  obtain ⟨x5_1, rfl, HA, HK1, ⟨m1, rfl⟩⟩ := hrel
  cases gk with
  | zero => exact absurd HA.out (by simp [laws_contains.l0])
  | succ k1 =>
   have H := HA.out
   clear HA
   simp only [laws_contains.l0] at H
   by_cases c3 : x5_1 < (l0.length : Int)
   ·
    rw [if_pos c3] at H
    have c3b0 : decide (x5_1 < (l0.length : Int)) = true := decide_eq_true c3
    clear c3
    by_cases c4 : 0 ≤ x5_1
    ·
     rw [if_pos c4] at H
     have c4b0 : decide (0 ≤ x5_1) = true := decide_eq_true c4
     clear c4
     by_cases c5 : (rd l0 x5_1) = a1
     ·
      rw [if_pos c5] at H
      have c5b0 : ((rd l0 x5_1) == a1) = true := beq_iff_eq.mpr c5
      have c5b1 : ((rd l0 x5_1) != a1) = false := bne_eq_false_iff_eq.mpr c5
      clear c5
      obtain rfl := Option.some.inj H
      have p347 : 0 ≤ (x5_1 : Int) := of_decide_eq_true (by first | (with_reducible assumption) | assumption)
      have q347 : x5_1 < (l0.length : Int) := of_decide_eq_true (by first | (with_reducible assumption) | assumption)
      obtain ⟨ad347, e347, hx347_0⟩ := Kd.at_int HR0.out x5_1 p347 q347
      cases e347
      replace p347 := eq_true p347
      replace q347 := eq_true q347
      go_wp2
      go_ret
      exact ⟨by first | rfl | (simp; done) | (simp [*]; done), by repeat (first | exact Drawn0.refl _ | apply Drawn0.step)⟩
     ·
      rw [if_neg c5] at H
      have c5b0 : ((rd l0 x5_1) == a1) = false := beq_eq_false_iff_ne.mpr c5
      have c5b1 : ((rd l0 x5_1) != a1) = true := bne_iff_ne.mpr c5
      have H' := Aside0.mk H
      clear H
      have p347 : 0 ≤ (x5_1 : Int) := of_decide_eq_true (by first | (with_reducible assumption) | assumption)
      have q347 : x5_1 < (l0.length : Int) := of_decide_eq_true (by first | (with_reducible assumption) | assumption)
      obtain ⟨ad347, e347, hx347_0⟩ := Kd.at_int HR0.out x5_1 p347 q347
      cases e347
      replace p347 := eq_true p347
      replace q347 := eq_true q347
      go_wp2
      go_roundg k1
      case measure => have := HK1.out; omega
      case rel => exact ⟨(wrap64 (x5_1 + 1)), (by first | rfl | (simp; done) | (simp [*]; done)), H', ⟨by have := HK1.out; omega⟩, by repeat (first | exact Drawn0.refl _ | apply Drawn0.step)⟩
    ·
     rw [if_neg c4] at H
     exact absurd H (by simp)
   ·
    rw [if_neg c3] at H
    have c3b0 : decide (x5_1 < (l0.length : Int)) = false := decide_eq_false c3
    clear c3
    obtain rfl := Option.some.inj H
    go_wp2
    go_ret
    exact ⟨by first | rfl | (simp; done) | (simp [*]; done), by repeat (first | exact Drawn0.refl _ | apply Drawn0.step)⟩
end Go.Proofs.Ytbhlmeghbfmgiaa.F

namespace Go.Proofs
open Go.Shelf
def Try.lays189_ren : Go.Shelf.Ren := ⟨fun | 189 => 89 | 125 => 135 | 257 => 134 | 128 => 171 | 129 => 172 | 294 => 162 | 295 => 163 | 296 => 164 | 297 => 165 | 298 => 166 | 299 => 167 | 216 => 168 | 300 => 169 | 301 => 170 | 328 => 177 | 329 => 178 | 330 => 179 | 331 => 180 | 332 => 181 | 215 => 160 | 343 => 191 | n => n, fun | 28 => 35 | 3 => 3 | 46 => 162 | 0 => 0 | 51 => 179 | 53 => 181 | 4 => 4 | 183 => 172 | 182 => 171 | 131 => 67 | 5 => 5 | 9 => 9 | 218 => 185 | 222 => 189 | 228 => 196 | 229 => 69 | n => n, fun | n => n⟩
theorem Try.lays189 : Go.Proofs.Lays.n189 Try.prog Try.lays189_ren := {
  mixed := by kernel_rfl
  f125 := Try.func135.trans (congrArg some (by kernel_rfl))
  f128 := Try.func171.trans (congrArg some (by kernel_rfl))
  f129 := Try.func172.trans (congrArg some (by kernel_rfl))
  f189 := Try.func89.trans (congrArg some (by kernel_rfl))
  f215 := Try.func160.trans (congrArg some (by kernel_rfl))
  f216 := Try.func168.trans (congrArg some (by kernel_rfl))
  f257 := Try.func134.trans (congrArg some (by kernel_rfl))
  f294 := Try.func162.trans (congrArg some (by kernel_rfl))
  f295 := Try.func163.trans (congrArg some (by kernel_rfl))
  f296 := Try.func164.trans (congrArg some (by kernel_rfl))
  f297 := Try.func165.trans (congrArg some (by kernel_rfl))
  f298 := Try.func166.trans (congrArg some (by kernel_rfl))
  f299 := Try.func167.trans (congrArg some (by kernel_rfl))
  f300 := Try.func169.trans (congrArg some (by kernel_rfl))
  f301 := Try.func170.trans (congrArg some (by kernel_rfl))
  f328 := Try.func177.trans (congrArg some (by kernel_rfl))
  f329 := Try.func178.trans (congrArg some (by kernel_rfl))
  f330 := Try.func179.trans (congrArg some (by kernel_rfl))
  f331 := Try.func180.trans (congrArg some (by kernel_rfl))
  f332 := Try.func181.trans (congrArg some (by kernel_rfl))
  f343 := Try.func191.trans (congrArg some (by kernel_rfl))
  t0 := Try.underlying0
  a0 := Try.isAgg0
  z0 := Try.sizeOf0
  v0 := Try.zeroValue0
  t3 := Try.underlying3
  a3 := Try.isAgg3
  z3 := Try.sizeOf3
  v3 := Try.zeroValue3
  t4 := Try.underlying4
  a4 := Try.isAgg4
  z4 := Try.sizeOf4
  v4 := Try.zeroValue4
  t5 := Try.underlying5
  a5 := Try.isAgg5
  z5 := Try.sizeOf5
  v5 := Try.zeroValue5
  t9 := Try.underlying9
  a9 := Try.isAgg9
  z9 := Try.sizeOf9
  v9 := Try.zeroValue9
  t28 := Try.underlying35
  a28 := Try.isAgg35
  z28 := Try.sizeOf35
  v28 := Try.zeroValue35
  t46 := Try.underlying162
  a46 := Try.isAgg162
  z46 := Try.sizeOf162
  v46 := Try.zeroValue162
  t51 := Try.underlying179
  a51 := Try.isAgg179
  z51 := Try.sizeOf179
  v51 := Try.zeroValue179
  t53 := Try.underlying181
  a53 := Try.isAgg181
  z53 := Try.sizeOf181
  v53 := Try.zeroValue181
  t131 := Try.underlying67
  a131 := Try.isAgg67
  z131 := Try.sizeOf67
  v131 := Try.zeroValue67
  t182 := Try.underlying171
  a182 := Try.isAgg171
  z182 := Try.sizeOf171
  v182 := Try.zeroValue171
  t183 := Try.underlying172
  a183 := Try.isAgg172
  z183 := Try.sizeOf172
  v183 := Try.zeroValue172
  t218 := Try.underlying185
  a218 := Try.isAgg185
  z218 := Try.sizeOf185
  v218 := Try.zeroValue185
  t222 := Try.underlying189
  a222 := Try.isAgg189
  z222 := Try.sizeOf189
  v222 := Try.zeroValue189
  t228 := Try.underlying196
  a228 := Try.isAgg196
  z228 := Try.sizeOf196
  v228 := Try.zeroValue196
  t229 := Try.underlying69
  a229 := Try.isAgg69
  z229 := Try.sizeOf69
  v229 := Try.zeroValue69 }
def Try.laysCo_ren : Go.Shelf.Ren := ⟨fun | 20 => 90 | n => n, fun | 22 => 35 | 3 => 3 | 4 => 4 | 0 => 0 | n => n, fun | n => n⟩
theorem Try.laysCo : Go.Proofs.Lays2.n20 Try.prog Try.laysCo_ren := {
  mixed := by kernel_rfl
  f20 := Try.func90.trans (congrArg some (by kernel_rfl))
  t0 := Try.underlying0
  a0 := Try.isAgg0
  z0 := Try.sizeOf0
  v0 := Try.zeroValue0
  t3 := Try.underlying3
  a3 := Try.isAgg3
  z3 := Try.sizeOf3
  v3 := Try.zeroValue3
  t4 := Try.underlying4
  a4 := Try.isAgg4
  z4 := Try.sizeOf4
  v4 := Try.zeroValue4
  t22 := Try.underlying35
  a22 := Try.isAgg35
  z22 := Try.sizeOf35
  v22 := Try.zeroValue35
  i3 := by kernel_rfl }
end Go.Proofs

namespace Go.Proofs.Ytbhlmeghbfmgiaa.F
open Go.RowKit Go.Proofs.YtbhlmeghbfmgiaaW.PrintWords Go.Proofs.YtbhlmeghbfmgiaaW.PrintLast Go.Proofs.YtbhlmeghbfmgiaaW.PrintMore
attribute [local go_sem] max2_int min2_int max_two min_two max_three min_three max_four min_four
set_option linter.unusedVariables false
set_option linter.unusedSimpArgs false
def impl_Event_sounds.f (a0_0 : Int) (a0_1 : Int) (a0_2 : Int) (a0_3 : Int) (a1 : Int) : Option (Bool) := if a0_0 ≤ a1 then (some (decide (a1 < (wrap64 (a0_0 + a0_1))))) else (some false)
set_option maxHeartbeats 8000000 in
set_option maxRecDepth 100000 in
theorem impl_Event_sounds.calls (a0_0 : Int) (a0_1 : Int) (a0_2 : Int) (a0_3 : Int) (a1 : Int) (r : Bool) (w : World) (h : impl_Event_sounds.f a0_0 a0_1 a0_2 a0_3 a1 = some r) :
  Calls Try.prog 88 #[.agg #[.int .i64 a0_0, .int .i64 a0_1, .int .i64 a0_2, .int .i64 a0_3], .int .i64 a1] w fun e w' => e = .returned (.bool r) ∧ Below w.heap.size w w' := by
 have hu26 := Try.underlying26
 have HB := Aside0.mk (Below.refl w.heap.size w)
 have H : (if a0_0 ≤ a1 then (some (decide (a1 < (wrap64 (a0_0 + a0_1))))) else (some false)) = some r := h
 clear h
 by_cases c3 : a0_0 ≤ a1
 ·
  rw [if_pos c3] at H
  have c3b0 : decide (a0_0 ≤ a1) = true := decide_eq_true c3
  clear c3
  obtain rfl := Option.some.inj H
  go_enter Try.func88, Try.ntmps88
  go_wp2_with (first | ((with_reducible refine gate_dst (N := 2) rfl ?_); refine box_event ?hg (N := 2) ?hd (cs := #[.int .i64 a0_0, .int .i64 a0_1, .int .i64 a0_2, .int .i64 a0_3]) (t := 26) ?hr ?_; (case hd => rfl); (case hg => rfl); (case hr => first | (go_simp; done) | (go_simp; rfl)); intro gb348 hg w4 hbox hb; have n0_ := Aside0.mk (below_step (by repeat (first | (with_reducible first | exact HB.out | apply below_alloc | apply pw_below_drewN | apply below_drew1) | exact HB.out)) hb); have n1_ := Aside0.mk (hbox); have n2_ := Aside0.mk ((by rw [hg]; exact (below_size (by repeat (first | (with_reducible first | exact HB.out | apply below_alloc | apply pw_below_drewN | apply below_drew1) | exact HB.out))) : w.heap.size ≤ gb348)); have n3_ := Aside0.mk ((by rw [hg]; exact (below_size (by repeat (first | (with_reducible first | exact HB.out | apply below_alloc | apply pw_below_drewN | apply below_drew1) | exact HB.out))) : w.heap.size ≤ gb348)); clear HB; have HB := n0_; have BK348 := n1_; have GW348 := n2_; have GE348 := n3_; clear n0_ n1_ n2_ n3_; clear hb hbox hg; have hcz5_0 : w4.cell? ⟨gb348, 0, none⟩ = some (.int .i64 a0_0) := (blk_cell BK348.out 0).trans rfl; have hcz5_1 : w4.cell? ⟨gb348, 1, none⟩ = some (.int .i64 a0_1) := (blk_cell BK348.out 1).trans rfl; have hcz5_2 : w4.cell? ⟨gb348, 2, none⟩ = some (.int .i64 a0_2) := (blk_cell BK348.out 2).trans rfl; have hcz5_3 : w4.cell? ⟨gb348, 3, none⟩ = some (.int .i64 a0_3) := (blk_cell BK348.out 3).trans rfl; have hfz5_0 := blk_frozen BK348.out 0; have hfz5_1 := blk_frozen BK348.out 1; have hfz5_2 := blk_frozen BK348.out 2; have hfz5_3 := blk_frozen BK348.out 3))
  go_ret
  exact ⟨by first | rfl | (simp [errW_none, errW_some] <;> rfl) | (simp [*, errW_none, errW_some] <;> rfl), by repeat (first | (with_reducible first | exact HB.out | apply below_alloc | apply pw_below_drewN | apply below_drew1 | refine below_set ?_ GE348.out) | exact HB.out)⟩
 ·
  rw [if_neg c3] at H
  have c3b0 : decide (a0_0 ≤ a1) = false := decide_eq_false c3
  clear c3
  obtain rfl := Option.some.inj H
  go_enter Try.func88, Try.ntmps88
  go_wp2_with (first | ((with_reducible refine gate_dst (N := 2) rfl ?_); refine box_event ?hg (N := 2) ?hd (cs := #[.int .i64 a0_0, .int .i64 a0_1, .int .i64 a0_2, .int .i64 a0_3]) (t := 26) ?hr ?_; (case hd => rfl); (case hg => rfl); (case hr => first | (go_simp; done) | (go_simp; rfl)); intro gb348 hg w6 hbox hb; have n0_ := Aside0.mk (below_step (by repeat (first | (with_reducible first | exact HB.out | apply below_alloc | apply pw_below_drewN | apply below_drew1) | exact HB.out)) hb); have n1_ := Aside0.mk (hbox); have n2_ := Aside0.mk ((by rw [hg]; exact (below_size (by repeat (first | (with_reducible first | exact HB.out | apply below_alloc | apply pw_below_drewN | apply below_drew1) | exact HB.out))) : w.heap.size ≤ gb348)); have n3_ := Aside0.mk ((by rw [hg]; exact (below_size (by repeat (first | (with_reducible first | exact HB.out | apply below_alloc | apply pw_below_drewN | apply below_drew1) | exact HB.out))) : w.heap.size ≤ gb348)); clear HB; have HB := n0_; have BK348 := n1_; have GW348 := n2_; have GE348 := n3_; clear n0_ n1_ n2_ n3_; clear hb hbox hg; have hcz7_0 : w6.cell? ⟨gb348, 0, none⟩ = some (.int .i64 a0_0) := (blk_cell BK348.out 0).trans rfl; have hcz7_1 : w6.cell? ⟨gb348, 1, none⟩ = some (.int .i64 a0_1) := (blk_cell BK348.out 1).trans rfl; have hcz7_2 : w6.cell? ⟨gb348, 2, none⟩ = some (.int .i64 a0_2) := (blk_cell BK348.out 2).trans rfl; have hcz7_3 : w6.cell? ⟨gb348, 3, none⟩ = some (.int .i64 a0_3) := (blk_cell BK348.out 3).trans rfl; have hfz7_0 := blk_frozen BK348.out 0; have hfz7_1 := blk_frozen BK348.out 1; have hfz7_2 := blk_frozen BK348.out 2; have hfz7_3 := blk_frozen BK348.out 3))
  go_ret
  exact ⟨by first | rfl | (simp [errW_none, errW_some] <;> rfl) | (simp [*, errW_none, errW_some] <;> rfl), by repeat (first | (with_reducible first | exact HB.out | apply below_alloc | apply pw_below_drewN | apply below_drew1 | refine below_set ?_ GE348.out) | exact HB.out)⟩
end Go.Proofs.Ytbhlmeghbfmgiaa.F

namespace Go.Proofs.Ytbhlmeghbfmgiaa.F
open Go.RowKit Go.Proofs.YtbhlmeghbfmgiaaW.PrintWords Go.Proofs.YtbhlmeghbfmgiaaW.PrintLast Go.Proofs.YtbhlmeghbfmgiaaW.PrintMore
attribute [local go_sem] max2_int min2_int max_two min_two max_three min_three max_four min_four
set_option linter.unusedVariables false
set_option linter.unusedSimpArgs false
def cmpS (xs : List Int) : List Int := Lib.compact (xs.mergeSort fun x y => decide (x ≤ y))
theorem so_sort (base : Nat) (v : Value) (xs : List Int) (w : World) (HR : Kd.R (Kd.int .i64) 3 w base (fun _ => True) v xs) (hsz : xs.length < 4611686018427387904) :
  Calls Try.prog 89 #[v] w fun e w' => e = .returned (.tuple #[]) ∧ Kd.R (Kd.int .i64) 3 w' base (fun _ => True) v (xs.mergeSort fun x y => decide (x ≤ y)) ∧ Below base w w' := by
 have ho := Kd.own_of_R HR
 rcases ho.2 with ⟨rfl, hn⟩ | ⟨g, cap, cur, rfl, hb, hh, hnc, hcm, hcs, ht⟩
 ·
  obtain rfl : xs = [] := List.eq_nil_of_length_eq_zero hn
  have hcon := Any.slices_Sort_int_none Try.lays189 none 0 w
  change Calls Try.prog 89 _ _ _ at hcon
  exact hcon.mono fun e w' ⟨he, hw⟩ => ⟨he, by rw [hw]; simpa using HR, by rw [hw]; exact Below.refl _ _⟩
 ·
  have hlt : g < w.heap.size := (Array.getElem?_eq_some_iff.1 hh).1
  have ht' : cur.toList.take xs.length = xs.map (Value.int .i64) := by simpa [encs] using ht
  have hcon := Any.slices_Sort_int Try.lays189 g 0 cap xs w (holds_of_blockI hh ht') hlt hsz
  change Calls Try.prog 89 _ _ _ at hcon
  refine hcon.mono fun e w' hw => ?_
  obtain ⟨he, n, os, rfl⟩ := hw
  have hl : (xs.mergeSort fun x y => decide (x ≤ y)).length = xs.length := List.length_mergeSort _
  refine ⟨he, Kd.R_of_own ?_ (fun _ _ => trivial), ?_⟩
  ·
   rw [hl]
   exact ownsRow_sortedI hl hb hh hnc hcm (by omega)
  ·
   have hg := grownBy_sortedI (w := w) (g := g) (n := n) (os := os) (xs.mergeSort fun x y => decide (x ≤ y)).toArray
   exact (Below.refl base w).grown hg (by omega) (fun k hk => by cases hk; exact hb)
theorem so_compact (base : Nat) (v : Value) (xs : List Int) (w : World) (HR : Kd.R (Kd.int .i64) 3 w base (fun _ => True) v xs) :
  Calls Try.prog 90 #[v] w fun e w' => ∃ v' : Value, e = .returned v' ∧ Kd.R (Kd.int .i64) 3 w' base (fun _ => True) v' (Lib.compact xs) ∧ Below base w w' := by
 have ho := Kd.own_of_R HR
 rcases ho.2 with ⟨rfl, hn⟩ | ⟨g, cap, cur, rfl, hb, hh, hnc, hcm, hcs, ht⟩
 ·
  obtain rfl : xs = [] := List.eq_nil_of_length_eq_zero hn
  have hcon := Any.slices_Compact_int_empty Try.laysCo none 0 w
  change Calls Try.prog 90 _ _ _ at hcon
  exact hcon.mono fun e w' ⟨he, hw⟩ => ⟨_, he, by rw [hw]; exact HR, by rw [hw]; exact Below.refl _ _⟩
 ·
  have hlt : g < w.heap.size := (Array.getElem?_eq_some_iff.1 hh).1
  have ht' : cur.toList.take xs.length = xs.map (Value.int .i64) := by simpa [encs] using ht
  have hcon := Any.slices_Compact_int Try.laysCo g 0 cap xs w (holds_of_blockI hh ht') (by unfold maxLen at hcm; omega) hnc
  change Calls Try.prog 90 _ _ _ at hcon
  refine hcon.mono fun e w' hw => ?_
  obtain ⟨he, q, rfl⟩ := hw
  have hle : (Lib.compact xs).length ≤ xs.length := by
   unfold Lib.compact Lib.compactUpTo
   rw [List.length_map]
   exact Nat.le_trans (List.length_filter_le _ _) (by simp)
  refine ⟨_, he, Kd.R_of_own ?_ (fun _ _ => trivial), Lib.below_putRow (Below.refl base w) hb⟩
  have h2 := Lib.ownsRow_putRow (enc := Value.int .i64) (q := q) (k := (Lib.compact xs).length) (zs := xs) (ys := Lib.compact xs ++ List.replicate (xs.length - (Lib.compact xs).length) 0) (by simpa [encs] using ho) (by simp; omega) hle
  rw [List.take_left] at h2
  simpa [encs] using h2
def impl_SoundsAt.l0 : Nat → Int → List Int → List (S26) → Int → Int → Option (List Int)
 | 0, _, _, _, _, _ => none
 | k + 1, x1, x5, x13, x14, x15 => if x15 < x14 then (if 0 ≤ x15 then (if x15 < (x13.length : Int) then ((impl_Event_sounds.f ((rd_T26 x13 x15).f0) ((rd_T26 x13 x15).f1) ((rd_T26 x13 x15).f2) ((rd_T26 x13 x15).f3) x1).bind fun t489 => (if t489 = true then (if x5.length < 17592186044416 then (impl_SoundsAt.l0 k x1 (x5 ++ [(rd_T26 x13 x15).f2]) x13 x14 (wrap64 (x15 + 1))) else (none)) else (impl_SoundsAt.l0 k x1 x5 x13 x14 (wrap64 (x15 + 1))))) else (none)) else (none)) else (if x5.length < 4611686018427387904 then (some (cmpS x5)) else (none))
def impl_SoundsAt.f (k : Nat) (l0 : List (S26)) (a1 : Int) : Option (List Int) := (some (([] : List Int) : List Int)).bind fun y483 => ((impl_IsScore.f k l0).bind fun t486 => (if t486 = true then (impl_SoundsAt.l0 k a1 y483 l0 (l0.length : Int) 0) else (some y483)))
set_option maxHeartbeats 8000000 in
set_option maxRecDepth 100000 in
theorem impl_SoundsAt.calls (k : Nat) (A0 : Option Addr) (c0 : Nat) (l0 : List (S26)) (a1 : Int) (r : List Int) (w : World) (hr0 : Kd.C k26 w A0 l0.length l0) (hc0 : l0.length ≤ c0) (h : impl_SoundsAt.f k l0 a1 = some r) :
  Calls Try.prog 18 #[.slice A0 l0.length c0, .int .i64 a1] w fun e w' => ∃ v0_ : Value, e = .returned (v0_) ∧ Kd.R (Kd.int .i64) 3 w' w.heap.size (fun _ => True) v0_ r ∧ Below w.heap.size w w' := by
 have hu26 := Try.underlying26
 have HR0 := Aside0.mk hr0
 have HC0 := Aside0.mk hc0
 clear hr0 hc0
 have HB := Aside0.mk (Below.refl w.heap.size w)
 have H : ((some (([] : List Int) : List Int)).bind fun y483 => ((impl_IsScore.f k l0).bind fun t486 => (if t486 = true then (impl_SoundsAt.l0 k a1 y483 l0 (l0.length : Int) 0) else (some y483)))) = some r := h
 clear h
 obtain ⟨y483, hy483⟩ : ∃ y_ : List Int, y_ = (([] : List Int)) := ⟨_, rfl⟩
 replace H : ((impl_IsScore.f k l0).bind fun t486 => (if t486 = true then (impl_SoundsAt.l0 k a1 y483 l0 (l0.length : Int) 0) else (some y483))) = some r := by first | (rw [hy483]; with_reducible exact H) | (have H2_ := (Option.bind_some _ _).symm.trans H; rw [hy483]; with_reducible exact H2_) | (have H2_ := (Option.bind_some _ _).symm.trans H; with_reducible exact H2_) | with_reducible exact H | (rw [hy483]; exact H) | exact H
 have Ny483 := Aside0.mk hy483
 clear hy483
 replace H := Option.bind_eq_some_iff.mp H
 obtain ⟨t486, A30, H⟩ := H
 try dsimp only at H
 have A3 := Aside0.mk A30
 clear A30
 by_cases c4 : t486 = true
 ·
  subst c4
  rw [if_pos rfl] at H
  have H' := Aside0.mk H
  clear H
  go_enter Try.func18, Try.ntmps18
  go_wp2_with (first | ((with_reducible refine gate_dst (N := 8) rfl ?_); refine Kd.R_lit (Kd.int .i64) _ 3 ?hg (N := 8) ?hd (xs := ([] : List Int)) (inner := []) (ok := fun _ => True) (okp := fun _ => True) ?hr ?hp (fun _ hk => hk) trivial (Below.refl _ _) (Nat.le_refl _) (by simp) ?_; (case hd => rfl); (case hg => rfl); (case hr => first | (go_simp; done) | (go_simp; rfl)); (case hp => exact (Reps.none _ _)); intro v484 w5 ho6 hb hg_ hnew_; clear hg_ hnew_; (first | rw [← Ny483.out] at ho6 | (simp only [Int.reduceToNat] at ho6; rw [← Ny483.out] at ho6)); have n0_ := Aside0.mk (Kd.R_lower ho6 (below_size (by repeat (first | (with_reducible first | exact HB.out | apply below_alloc | apply pw_below_drewN | apply below_drew1) | exact HB.out)))); have n1_ := Aside0.mk (below_step (by repeat (first | (with_reducible first | exact HB.out | apply below_alloc | apply pw_below_drewN | apply below_drew1) | exact HB.out)) hb); clear HB; have HO485 := n0_; have HB := n1_; clear n0_ n1_; clear hb ho6) | ((with_reducible refine gate_callee (f := 14) rfl ?_); refine goesL_ (some 10) rfl rfl Try.func14 (by kernel_rfl) rfl #[.slice A0 l0.length c0] rfl (by (try simp only [List.map_toArray, List.map_cons, List.map_nil]); first | done | rfl | (simp only [List.length_drop, List.length_take]; rfl)) ?_; (with_reducible refine (impl_IsScore.calls k _ _ l0 true _ ?side1 ?side2 A3.out).mono ?_); (case side1 => repeat (first | exact (Kd.C_below HR0.out HB.out) | (with_reducible refine Kd.C_alloc ?_ _) | (with_reducible refine Kd.C_drewN ?_ _) | (with_reducible refine Kd.C_drew ?_))); (case side2 => exact HC0.out); rintro e w7 ⟨rfl, hb⟩; refine ⟨_, rfl, ?_⟩; have n0_ := Aside0.mk (Kd.R_below (by (with_reducible repeat (first | apply Kd.R_alloc | apply Kd.R_drewN | apply Kd.R_drew)); exact HO485.out) hb); have n1_ := Aside0.mk (below_step (by repeat (first | (with_reducible first | exact HB.out | apply below_alloc | apply pw_below_drewN | apply below_drew1) | exact HB.out)) hb); clear HO485; clear HB; have HO485 := n0_; have HB := n1_; clear n0_ n1_; (try clear hb); (try clear hb2); (try clear hk); (try clear hi)))
  go_loopg [5, 15] k (fun kq v5 v15 w' => ∃ (x5_1 : List Int) (x15_1 : Int), v15 = .int .i64 x15_1 ∧ Aside0 (impl_SoundsAt.l0 kq a1 x5_1 l0 (l0.length : Int) x15_1 = some r) ∧ Aside0 (kq ≤ k) ∧ Aside0 (Kd.R (Kd.int .i64) 3 w' w.heap.size (fun _ => True) v5 x5_1) ∧ Aside0 (Below w.heap.size w w'))
  case atStart => exact ⟨(y483), (0), (by first | rfl | (simp; done) | (simp [*]; done)), H', ⟨Nat.le_refl _⟩, ⟨by (with_reducible repeat (first | apply Kd.R_alloc | apply Kd.R_drewN | apply Kd.R_drew)); exact HO485.out⟩, ⟨by repeat (first | (with_reducible first | exact HB.out | apply below_alloc | apply pw_below_drewN | apply below_drew1) | exact HB.out)⟩⟩
  case round =>
   clear H'
   try clear c1
   try clear p2
   try clear c4
   obtain ⟨x5_1, x15_1, rfl, HA, HK1, HO_5, HB⟩ := hrel
   cases gk with
   | zero => exact absurd HA.out (by simp [impl_SoundsAt.l0])
   | succ k1 =>
    have H := HA.out
    clear HA
    simp only [impl_SoundsAt.l0] at H
    by_cases c8 : x15_1 < (l0.length : Int)
    ·
     rw [if_pos c8] at H
     have c8b0 : decide (x15_1 < (l0.length : Int)) = true := decide_eq_true c8
     clear c8
     by_cases c9 : 0 ≤ x15_1
     ·
      rw [if_pos c9] at H
      have c9b0 : decide (0 ≤ x15_1) = true := decide_eq_true c9
      clear c9
      by_cases c10 : x15_1 < (l0.length : Int)
      ·
       rw [if_pos c10] at H
       have c10b0 : decide (x15_1 < (l0.length : Int)) = true := decide_eq_true c10
       clear c10
       replace H := Option.bind_eq_some_iff.mp H
       obtain ⟨t489, A110, H⟩ := H
       try dsimp only at H
       have A11 := Aside0.mk A110
       clear A110
       by_cases c12 : t489 = true
       ·
        subst c12
        rw [if_pos rfl] at H
        by_cases c13 : x5_1.length < 17592186044416
        ·
         rw [if_pos c13] at H
         have LMc13 := Aside0.mk c13
         clear c13
         obtain ⟨y490, hy490⟩ : ∃ y_ : List Int, y_ = (x5_1 ++ [(rd_T26 l0 x15_1).f2]) := ⟨_, rfl⟩
         replace H : (impl_SoundsAt.l0 k1 a1 y490 l0 (l0.length : Int) (wrap64 (x15_1 + 1))) = some r := by first | (rw [hy490]; with_reducible exact H) | (have H2_ := (Option.bind_some _ _).symm.trans H; rw [hy490]; with_reducible exact H2_) | (have H2_ := (Option.bind_some _ _).symm.trans H; with_reducible exact H2_) | with_reducible exact H | (rw [hy490]; exact H) | exact H
         have Ny490 := Aside0.mk hy490
         clear hy490
         have H' := Aside0.mk H
         clear H
         have p487 : 0 ≤ (x15_1 : Int) := of_decide_eq_true (by first | (with_reducible assumption) | assumption)
         have q487 : x15_1 < (l0.length : Int) := of_decide_eq_true (by first | (with_reducible assumption) | assumption)
         obtain ⟨ad487, e487, hx487_0, hx487_1, hx487_2, hx487_3⟩ := at_T26 HR0.out x15_1 p487 q487
         cases e487
         replace hx487_0 := (HB.out.cell (World.block_lt_of_cell? w _ hx487_0)).trans hx487_0
         replace hx487_1 := (HB.out.cell (World.block_lt_of_cell? w _ hx487_1)).trans hx487_1
         replace hx487_2 := (HB.out.cell (World.block_lt_of_cell? w _ hx487_2)).trans hx487_2
         replace hx487_3 := (HB.out.cell (World.block_lt_of_cell? w _ hx487_3)).trans hx487_3
         replace p487 := eq_true p487
         replace q487 := eq_true q487
         go_wp2_with (first | ((with_reducible refine gate_dst (N := 7) rfl ?_); refine box_event ?hg (N := 7) ?hd (cs := #[.int .i64 0, .int .i64 0, .int .i64 0, .int .i64 0]) (t := 26) ?hr ?_; (case hd => rfl); (case hg => rfl); (case hr => first | (go_simp; done) | (go_simp; rfl)); intro gb488 hg w14 hbox hb; have n0_ := Aside0.mk (Kd.R_below (by (with_reducible repeat (first | apply Kd.R_alloc | apply Kd.R_drewN | apply Kd.R_drew)); exact HO_5.out) hb); have n1_ := Aside0.mk (below_step (by repeat (first | (with_reducible first | exact HB.out | apply below_alloc | apply pw_below_drewN | apply below_drew1) | exact HB.out)) hb); have n2_ := Aside0.mk (hbox); have n3_ := Aside0.mk ((by rw [hg]; exact (below_size (by repeat (first | (with_reducible first | exact HB.out | apply below_alloc | apply pw_below_drewN | apply below_drew1) | exact HB.out))) : w.heap.size ≤ gb488)); have n4_ := Aside0.mk ((by rw [hg]; exact (below_size (by repeat (first | (with_reducible first | exact HB.out | apply below_alloc | apply pw_below_drewN | apply below_drew1) | exact HB.out))) : w.heap.size ≤ gb488)); clear HO_5; clear HB; have HO_5 := n0_; have HB := n1_; have BK488 := n2_; have GW488 := n3_; have GE488 := n4_; clear n0_ n1_ n2_ n3_ n4_; clear hb hbox hg; have hcz15_0 : w14.cell? ⟨gb488, 0, none⟩ = some (.int .i64 0) := (blk_cell BK488.out 0).trans rfl; have hcz15_1 : w14.cell? ⟨gb488, 1, none⟩ = some (.int .i64 0) := (blk_cell BK488.out 1).trans rfl; have hcz15_2 : w14.cell? ⟨gb488, 2, none⟩ = some (.int .i64 0) := (blk_cell BK488.out 2).trans rfl; have hcz15_3 : w14.cell? ⟨gb488, 3, none⟩ = some (.int .i64 0) := (blk_cell BK488.out 3).trans rfl; have hfz15_0 := blk_frozen BK488.out 0; have hfz15_1 := blk_frozen BK488.out 1; have hfz15_2 := blk_frozen BK488.out 2; have hfz15_3 := blk_frozen BK488.out 3) | ((with_reducible refine gate_callee (f := 88) rfl ?_); refine goesL_ (some 21) rfl rfl Try.func88 (by kernel_rfl) rfl #[.agg #[.int .i64 ((rd_T26 l0 x15_1).f0), .int .i64 ((rd_T26 l0 x15_1).f1), .int .i64 ((rd_T26 l0 x15_1).f2), .int .i64 ((rd_T26 l0 x15_1).f3)], .int .i64 a1] rfl (by (try simp only [List.map_toArray, List.map_cons, List.map_nil]); first | done | rfl | (simp only [List.length_drop, List.length_take]; rfl)) ?_; (with_reducible refine (impl_Event_sounds.calls ((rd_T26 l0 x15_1).f0) ((rd_T26 l0 x15_1).f1) ((rd_T26 l0 x15_1).f2) ((rd_T26 l0 x15_1).f3) a1 true _ A11.out).mono ?_); rintro e w16 ⟨rfl, hb⟩; refine ⟨_, rfl, ?_⟩; have n0_ := Aside0.mk (Kd.R_below (by (with_reducible repeat (first | apply Kd.R_alloc | apply Kd.R_drewN | apply Kd.R_drew)); exact (Kd.R_mono (Kd.R_far (p := ⟨gb488, 3, none⟩) (Kd.R_far (p := ⟨gb488, 2, none⟩) (Kd.R_far (p := ⟨gb488, 1, none⟩) (Kd.R_far (p := ⟨gb488, 0, none⟩) (Kd.R_types HO_5.out BK488.out (by decide)) (fun _ hk => hk.2) (.int .i64 ((rd_T26 l0 x15_1).f0))) (fun _ hk => hk.2) (.int .i64 ((rd_T26 l0 x15_1).f1))) (fun _ hk => hk.2) (.int .i64 ((rd_T26 l0 x15_1).f2))) (fun _ hk => hk.2) (.int .i64 ((rd_T26 l0 x15_1).f3))) (fun _ h_ => h_.1))) hb); have n1_ := Aside0.mk (blk_below (g := gb488) (o := .cells #[.int .i64 ((rd_T26 l0 x15_1).f0), .int .i64 ((rd_T26 l0 x15_1).f1), .int .i64 ((rd_T26 l0 x15_1).f2), .int .i64 ((rd_T26 l0 x15_1).f3)] 26 (0, 0)) (by (with_reducible repeat (first | refine blk_drewN ?_ _ | refine blk_drew ?_ | refine blk_alloc ?_ _)); refine blk_put (cs := #[.int .i64 ((rd_T26 l0 x15_1).f0), .int .i64 ((rd_T26 l0 x15_1).f1), .int .i64 ((rd_T26 l0 x15_1).f2), .int .i64 0]) ?_ 3 _ rfl; (with_reducible repeat (first | refine blk_drewN ?_ _ | refine blk_drew ?_ | refine blk_alloc ?_ _)); refine blk_put (cs := #[.int .i64 ((rd_T26 l0 x15_1).f0), .int .i64 ((rd_T26 l0 x15_1).f1), .int .i64 0, .int .i64 0]) ?_ 2 _ rfl; (with_reducible repeat (first | refine blk_drewN ?_ _ | refine blk_drew ?_ | refine blk_alloc ?_ _)); refine blk_put (cs := #[.int .i64 ((rd_T26 l0 x15_1).f0), .int .i64 0, .int .i64 0, .int .i64 0]) ?_ 1 _ rfl; (with_reducible repeat (first | refine blk_drewN ?_ _ | refine blk_drew ?_ | refine blk_alloc ?_ _)); refine blk_put (cs := #[.int .i64 0, .int .i64 0, .int .i64 0, .int .i64 0]) ?_ 0 _ rfl; (with_reducible repeat (first | refine blk_drewN ?_ _ | refine blk_drew ?_ | refine blk_alloc ?_ _)); exact BK488.out) hb); have n2_ := Aside0.mk (below_step (by repeat (first | (with_reducible first | exact HB.out | apply below_alloc | apply pw_below_drewN | apply below_drew1 | refine below_set ?_ GE488.out) | exact HB.out)) hb); clear HO_5; clear BK488; clear HB; have HO_5 := n0_; have BK488 := n1_; have HB := n2_; clear n0_ n1_ n2_; (try clear hb); (try clear hb2); (try clear hk); (try clear hi); have hcz17_0 : w16.cell? ⟨gb488, 0, none⟩ = some (.int .i64 ((rd_T26 l0 x15_1).f0)) := (blk_cell BK488.out 0).trans rfl; have hcz17_1 : w16.cell? ⟨gb488, 1, none⟩ = some (.int .i64 ((rd_T26 l0 x15_1).f1)) := (blk_cell BK488.out 1).trans rfl; have hcz17_2 : w16.cell? ⟨gb488, 2, none⟩ = some (.int .i64 ((rd_T26 l0 x15_1).f2)) := (blk_cell BK488.out 2).trans rfl; have hcz17_3 : w16.cell? ⟨gb488, 3, none⟩ = some (.int .i64 ((rd_T26 l0 x15_1).f3)) := (blk_cell BK488.out 3).trans rfl; have hfz17_0 := blk_frozen BK488.out 0; have hfz17_1 := blk_frozen BK488.out 1; have hfz17_2 := blk_frozen BK488.out 2; have hfz17_3 := blk_frozen BK488.out 3) | ((with_reducible refine gate_builtin (b := .append) (xs := #[.tmp 22, .tmp 25]) rfl ?_); at_builtin; refine Kd.R_append (Kd.int .i64) (w0 := w) w.heap.size rfl (.tmp 22) (.tmp 25) 35 3 (.int .i64 0) 8 rfl Try.underlying35 info3 rfl (by decide) (by omega) u5 x5_1 ((rd_T26 l0 x15_1).f2) [.int .i64 ((rd_T26 l0 x15_1).f2)] (fun _ => True) (fun _ => False) rfl rfl ?aP (fun _ hk => hk.elim) ?aF ?aO ?aB ?aS ?aL ?_; (case aP => exact rfl); (case aB => exact (by repeat (first | (with_reducible first | exact HB.out | apply below_alloc | apply pw_below_drewN | apply below_drew1 | refine below_set ?_ GE488.out) | exact HB.out))); (case aF => exact (fun _ _ => trivial)); (case aO => exact (by (with_reducible repeat (first | apply Kd.R_alloc | apply Kd.R_drewN | apply Kd.R_drew)); exact HO_5.out)); (case aS => exact (below_size (by repeat (first | (with_reducible first | exact HB.out | apply below_alloc | apply pw_below_drewN | apply below_drew1 | refine below_set ?_ GE488.out) | exact HB.out)))); (case aL => have := LMc13.out; omega); intro v491 w18 ho hb hg hat; rw [← Ny490.out] at ho; have n0_ := Aside0.mk (blk_grown (g := gb488) (o := .cells #[.int .i64 ((rd_T26 l0 x15_1).f0), .int .i64 ((rd_T26 l0 x15_1).f1), .int .i64 ((rd_T26 l0 x15_1).f2), .int .i64 ((rd_T26 l0 x15_1).f3)] 26 (0, 0)) (by (with_reducible repeat (first | refine blk_drewN ?_ _ | refine blk_drew ?_ | refine blk_alloc ?_ _)); exact BK488.out) hg (Kd.R_ne HO_5.out BK488.out (by decide))); have n1_ := Aside0.mk (hb); have n2_ := Aside0.mk (ho); clear BK488; clear HB; clear HO_5; have BK488 := n0_; have HB := n1_; have HO492 := n2_; clear n0_ n1_ n2_; clear ho hb hg hat))
         go_roundg k1
         case measure => have := HK1.out; omega
         case rel => exact ⟨(y490), (wrap64 (x15_1 + 1)), (by first | rfl | (simp; done) | (simp [*]; done)), H', ⟨by have := HK1.out; omega⟩, ⟨by (with_reducible repeat (first | apply Kd.R_alloc | apply Kd.R_drewN | apply Kd.R_drew)); exact HO492.out⟩, ⟨by repeat (first | (with_reducible first | exact HB.out | apply below_alloc | apply pw_below_drewN | apply below_drew1 | refine below_set ?_ GE488.out) | exact HB.out)⟩⟩
        ·
         rw [if_neg c13] at H
         exact absurd H (by simp)
       ·
        replace c12 := Bool.eq_false_iff.mpr c12
        subst c12
        rw [if_neg (show ¬ (false = true) by decide)] at H
        have H' := Aside0.mk H
        clear H
        have p487 : 0 ≤ (x15_1 : Int) := of_decide_eq_true (by first | (with_reducible assumption) | assumption)
        have q487 : x15_1 < (l0.length : Int) := of_decide_eq_true (by first | (with_reducible assumption) | assumption)
        obtain ⟨ad487, e487, hx487_0, hx487_1, hx487_2, hx487_3⟩ := at_T26 HR0.out x15_1 p487 q487
        cases e487
        replace hx487_0 := (HB.out.cell (World.block_lt_of_cell? w _ hx487_0)).trans hx487_0
        replace hx487_1 := (HB.out.cell (World.block_lt_of_cell? w _ hx487_1)).trans hx487_1
        replace hx487_2 := (HB.out.cell (World.block_lt_of_cell? w _ hx487_2)).trans hx487_2
        replace hx487_3 := (HB.out.cell (World.block_lt_of_cell? w _ hx487_3)).trans hx487_3
        replace p487 := eq_true p487
        replace q487 := eq_true q487
        go_wp2_with (first | ((with_reducible refine gate_dst (N := 7) rfl ?_); refine box_event ?hg (N := 7) ?hd (cs := #[.int .i64 0, .int .i64 0, .int .i64 0, .int .i64 0]) (t := 26) ?hr ?_; (case hd => rfl); (case hg => rfl); (case hr => first | (go_simp; done) | (go_simp; rfl)); intro gb488 hg w19 hbox hb; have n0_ := Aside0.mk (Kd.R_below (by (with_reducible repeat (first | apply Kd.R_alloc | apply Kd.R_drewN | apply Kd.R_drew)); exact HO_5.out) hb); have n1_ := Aside0.mk (below_step (by repeat (first | (with_reducible first | exact HB.out | apply below_alloc | apply pw_below_drewN | apply below_drew1) | exact HB.out)) hb); have n2_ := Aside0.mk (hbox); have n3_ := Aside0.mk ((by rw [hg]; exact (below_size (by repeat (first | (with_reducible first | exact HB.out | apply below_alloc | apply pw_below_drewN | apply below_drew1) | exact HB.out))) : w.heap.size ≤ gb488)); have n4_ := Aside0.mk ((by rw [hg]; exact (below_size (by repeat (first | (with_reducible first | exact HB.out | apply below_alloc | apply pw_below_drewN | apply below_drew1) | exact HB.out))) : w.heap.size ≤ gb488)); clear HO_5; clear HB; have HO_5 := n0_; have HB := n1_; have BK488 := n2_; have GW488 := n3_; have GE488 := n4_; clear n0_ n1_ n2_ n3_ n4_; clear hb hbox hg; have hcz20_0 : w19.cell? ⟨gb488, 0, none⟩ = some (.int .i64 0) := (blk_cell BK488.out 0).trans rfl; have hcz20_1 : w19.cell? ⟨gb488, 1, none⟩ = some (.int .i64 0) := (blk_cell BK488.out 1).trans rfl; have hcz20_2 : w19.cell? ⟨gb488, 2, none⟩ = some (.int .i64 0) := (blk_cell BK488.out 2).trans rfl; have hcz20_3 : w19.cell? ⟨gb488, 3, none⟩ = some (.int .i64 0) := (blk_cell BK488.out 3).trans rfl; have hfz20_0 := blk_frozen BK488.out 0; have hfz20_1 := blk_frozen BK488.out 1; have hfz20_2 := blk_frozen BK488.out 2; have hfz20_3 := blk_frozen BK488.out 3) | ((with_reducible refine gate_callee (f := 88) rfl ?_); refine goesL_ (some 21) rfl rfl Try.func88 (by kernel_rfl) rfl #[.agg #[.int .i64 ((rd_T26 l0 x15_1).f0), .int .i64 ((rd_T26 l0 x15_1).f1), .int .i64 ((rd_T26 l0 x15_1).f2), .int .i64 ((rd_T26 l0 x15_1).f3)], .int .i64 a1] rfl (by (try simp only [List.map_toArray, List.map_cons, List.map_nil]); first | done | rfl | (simp only [List.length_drop, List.length_take]; rfl)) ?_; (with_reducible refine (impl_Event_sounds.calls ((rd_T26 l0 x15_1).f0) ((rd_T26 l0 x15_1).f1) ((rd_T26 l0 x15_1).f2) ((rd_T26 l0 x15_1).f3) a1 false _ A11.out).mono ?_); rintro e w21 ⟨rfl, hb⟩; refine ⟨_, rfl, ?_⟩; have n0_ := Aside0.mk (Kd.R_below (by (with_reducible repeat (first | apply Kd.R_alloc | apply Kd.R_drewN | apply Kd.R_drew)); exact (Kd.R_mono (Kd.R_far (p := ⟨gb488, 3, none⟩) (Kd.R_far (p := ⟨gb488, 2, none⟩) (Kd.R_far (p := ⟨gb488, 1, none⟩) (Kd.R_far (p := ⟨gb488, 0, none⟩) (Kd.R_types HO_5.out BK488.out (by decide)) (fun _ hk => hk.2) (.int .i64 ((rd_T26 l0 x15_1).f0))) (fun _ hk => hk.2) (.int .i64 ((rd_T26 l0 x15_1).f1))) (fun _ hk => hk.2) (.int .i64 ((rd_T26 l0 x15_1).f2))) (fun _ hk => hk.2) (.int .i64 ((rd_T26 l0 x15_1).f3))) (fun _ h_ => h_.1))) hb); have n1_ := Aside0.mk (blk_below (g := gb488) (o := .cells #[.int .i64 ((rd_T26 l0 x15_1).f0), .int .i64 ((rd_T26 l0 x15_1).f1), .int .i64 ((rd_T26 l0 x15_1).f2), .int .i64 ((rd_T26 l0 x15_1).f3)] 26 (0, 0)) (by (with_reducible repeat (first | refine blk_drewN ?_ _ | refine blk_drew ?_ | refine blk_alloc ?_ _)); refine blk_put (cs := #[.int .i64 ((rd_T26 l0 x15_1).f0), .int .i64 ((rd_T26 l0 x15_1).f1), .int .i64 ((rd_T26 l0 x15_1).f2), .int .i64 0]) ?_ 3 _ rfl; (with_reducible repeat (first | refine blk_drewN ?_ _ | refine blk_drew ?_ | refine blk_alloc ?_ _)); refine blk_put (cs := #[.int .i64 ((rd_T26 l0 x15_1).f0), .int .i64 ((rd_T26 l0 x15_1).f1), .int .i64 0, .int .i64 0]) ?_ 2 _ rfl; (with_reducible repeat (first | refine blk_drewN ?_ _ | refine blk_drew ?_ | refine blk_alloc ?_ _)); refine blk_put (cs := #[.int .i64 ((rd_T26 l0 x15_1).f0), .int .i64 0, .int .i64 0, .int .i64 0]) ?_ 1 _ rfl; (with_reducible repeat (first | refine blk_drewN ?_ _ | refine blk_drew ?_ | refine blk_alloc ?_ _)); refine blk_put (cs := #[.int .i64 0, .int .i64 0, .int .i64 0, .int .i64 0]) ?_ 0 _ rfl; (with_reducible repeat (first | refine blk_drewN ?_ _ | refine blk_drew ?_ | refine blk_alloc ?_ _)); exact BK488.out) hb); have n2_ := Aside0.mk (below_step (by repeat (first | (with_reducible first | exact HB.out | apply below_alloc | apply pw_below_drewN | apply below_drew1 | refine below_set ?_ GE488.out) | exact HB.out)) hb); clear HO_5; clear BK488; clear HB; have HO_5 := n0_; have BK488 := n1_; have HB := n2_; clear n0_ n1_ n2_; (try clear hb); (try clear hb2); (try clear hk); (try clear hi)))
        go_roundg k1
        case measure => have := HK1.out; omega
        case rel => exact ⟨(x5_1), (wrap64 (x15_1 + 1)), (by first | rfl | (simp; done) | (simp [*]; done)), H', ⟨by have := HK1.out; omega⟩, ⟨by (with_reducible repeat (first | apply Kd.R_alloc | apply Kd.R_drewN | apply Kd.R_drew)); exact HO_5.out⟩, ⟨by repeat (first | (with_reducible first | exact HB.out | apply below_alloc | apply pw_below_drewN | apply below_drew1 | refine below_set ?_ GE488.out) | exact HB.out)⟩⟩
      ·
       rw [if_neg c10] at H
       exact absurd H (by simp)
     ·
      rw [if_neg c9] at H
      exact absurd H (by simp)
    ·
     rw [if_neg c8] at H
     have c8b0 : decide (x15_1 < (l0.length : Int)) = false := decide_eq_false c8
     clear c8
     by_cases cl_ : x5_1.length < 4611686018427387904
     ·
      rw [if_pos cl_] at H
      obtain rfl := Option.some.inj H
      have LCL := Aside0.mk cl_
      clear cl_
      go_wp2_with (first | (go_at_call 89; refine (so_sort _ _ _ _ HO_5.out LCL.out).mono ?_; rintro e w1_ ⟨rfl, ho1_, hb1_⟩; have HOs_ := Aside0.mk ho1_; have HBs_ := Aside0.mk (Below.trans HB.out hb1_); clear ho1_ hb1_) | (go_at_call 90; refine (so_compact _ _ _ _ HOs_.out).mono ?_; rintro e w2_ ⟨v2_, rfl, ho2_, hb2_⟩; have HOc_ := Aside0.mk ho2_; have HBc_ := Aside0.mk (Below.trans HBs_.out hb2_); clear ho2_ hb2_))
      go_ret
      exact ⟨_, by first | rfl | (simp [errW_none, errW_some] <;> rfl) | (simp [*, errW_none, errW_some] <;> rfl), by (with_reducible repeat (first | apply Kd.R_alloc | apply Kd.R_drewN | apply Kd.R_drew)); exact HOc_.out, by repeat (first | (with_reducible first | exact HBc_.out | apply below_alloc | apply pw_below_drewN | apply below_drew1) | exact HBc_.out)⟩
     ·
      rw [if_neg cl_] at H
      exact absurd H (by simp)
 ·
  replace c4 := Bool.eq_false_iff.mpr c4
  subst c4
  rw [if_neg (show ¬ (false = true) by decide)] at H
  obtain rfl := Option.some.inj H
  go_enter Try.func18, Try.ntmps18
  go_wp2_with (first | ((with_reducible refine gate_dst (N := 8) rfl ?_); refine Kd.R_lit (Kd.int .i64) _ 3 ?hg (N := 8) ?hd (xs := ([] : List Int)) (inner := []) (ok := fun _ => True) (okp := fun _ => True) ?hr ?hp (fun _ hk => hk) trivial (Below.refl _ _) (Nat.le_refl _) (by simp) ?_; (case hd => rfl); (case hg => rfl); (case hr => first | (go_simp; done) | (go_simp; rfl)); (case hp => exact (Reps.none _ _)); intro v484 w22 ho23 hb hg_ hnew_; clear hg_ hnew_; (first | rw [← Ny483.out] at ho23 | (simp only [Int.reduceToNat] at ho23; rw [← Ny483.out] at ho23)); have n0_ := Aside0.mk (Kd.R_lower ho23 (below_size (by repeat (first | (with_reducible first | exact HB.out | apply below_alloc | apply pw_below_drewN | apply below_drew1) | exact HB.out)))); have n1_ := Aside0.mk (below_step (by repeat (first | (with_reducible first | exact HB.out | apply below_alloc | apply pw_below_drewN | apply below_drew1) | exact HB.out)) hb); clear HB; have HO485 := n0_; have HB := n1_; clear n0_ n1_; clear hb ho23) | ((with_reducible refine gate_callee (f := 14) rfl ?_); refine goesL_ (some 10) rfl rfl Try.func14 (by kernel_rfl) rfl #[.slice A0 l0.length c0] rfl (by (try simp only [List.map_toArray, List.map_cons, List.map_nil]); first | done | rfl | (simp only [List.length_drop, List.length_take]; rfl)) ?_; (with_reducible refine (impl_IsScore.calls k _ _ l0 false _ ?side1 ?side2 A3.out).mono ?_); (case side1 => repeat (first | exact (Kd.C_below HR0.out HB.out) | (with_reducible refine Kd.C_alloc ?_ _) | (with_reducible refine Kd.C_drewN ?_ _) | (with_reducible refine Kd.C_drew ?_))); (case side2 => exact HC0.out); rintro e w24 ⟨rfl, hb⟩; refine ⟨_, rfl, ?_⟩; have n0_ := Aside0.mk (Kd.R_below (by (with_reducible repeat (first | apply Kd.R_alloc | apply Kd.R_drewN | apply Kd.R_drew)); exact HO485.out) hb); have n1_ := Aside0.mk (below_step (by repeat (first | (with_reducible first | exact HB.out | apply below_alloc | apply pw_below_drewN | apply below_drew1) | exact HB.out)) hb); clear HO485; clear HB; have HO485 := n0_; have HB := n1_; clear n0_ n1_; (try clear hb); (try clear hb2); (try clear hk); (try clear hi)))
  go_ret
  exact ⟨_, by first | rfl | (simp [errW_none, errW_some] <;> rfl) | (simp [*, errW_none, errW_some] <;> rfl), by (with_reducible repeat (first | apply Kd.R_alloc | apply Kd.R_drewN | apply Kd.R_drew)); exact HO485.out, by repeat (first | (with_reducible first | exact HB.out | apply below_alloc | apply pw_below_drewN | apply below_drew1) | exact HB.out)⟩
end Go.Proofs.Ytbhlmeghbfmgiaa.F

namespace Go.Proofs.Ytbhlmeghbfmgiaa.F
open Go.RowKit Go.Proofs.YtbhlmeghbfmgiaaW.PrintWords Go.Proofs.YtbhlmeghbfmgiaaW.PrintLast Go.Proofs.YtbhlmeghbfmgiaaW.PrintMore
attribute [local go_sem] max2_int min2_int max_two min_two max_three min_three max_four min_four
set_option linter.unusedVariables false
set_option linter.unusedSimpArgs false
def spec_DrawSoundsAt.f (k : Nat) (l0 : List Int) : Option ((List (S26)) × Int) := (spec_l1New.f k l0).bind fun bt493 => ((spec_l8Any.f k bt493.1 bt493.2.1 bt493.2.2).bind fun bt497 => ((spec_l1Below.f bt493.1 bt497.2.1 bt497.2.2 150).bind fun bt502 => (some (bt497.1, wrap64 (bt502.1 - 2)))))
set_option maxHeartbeats 8000000 in
set_option maxRecDepth 100000 in
theorem spec_DrawSoundsAt.calls (k : Nat) (A0 : Option Addr) (c0 : Nat) (l0 : List Int) (r1 : List (S26)) (r2 : Int) (w : World) (hr0 : Kd.C (Kd.int .u8) w A0 l0.length l0) (hc0 : l0.length ≤ c0) (h : spec_DrawSoundsAt.f k l0 = some (r1, r2)) :
  Calls Try.prog 19 #[.slice A0 l0.length c0] w fun e w' => ∃ v0_ : Value, e = .returned (.tuple #[v0_, .int .i64 r2]) ∧ Kd.R k26 26 w' w.heap.size (fun _ => True) v0_ r1 ∧ Below w.heap.size w w' := by
 have HR0 := Aside0.mk hr0
 have HC0 := Aside0.mk hc0
 clear hr0 hc0
 have HB := Aside0.mk (Below.refl w.heap.size w)
 have H : ((spec_l1New.f k l0).bind fun bt493 => ((spec_l8Any.f k bt493.1 bt493.2.1 bt493.2.2).bind fun bt497 => ((spec_l1Below.f bt493.1 bt497.2.1 bt497.2.2 150).bind fun bt502 => (some (bt497.1, wrap64 (bt502.1 - 2)))))) = some (r1, r2) := h
 clear h
 replace H := Option.bind_eq_some_iff.mp H
 obtain ⟨⟨t493, t494, t495⟩, A20, H⟩ := H
 try dsimp only at H
 have A2 := Aside0.mk A20
 clear A20
 replace H := Option.bind_eq_some_iff.mp H
 obtain ⟨⟨t497, t500, t501⟩, A30, H⟩ := H
 try dsimp only at H
 have A3 := Aside0.mk A30
 clear A30
 replace H := Option.bind_eq_some_iff.mp H
 obtain ⟨⟨t502, t503, t504⟩, A40, H⟩ := H
 try dsimp only at H
 have A4 := Aside0.mk A40
 clear A40
 simp only [Option.some.injEq, Prod.mk.injEq] at H
 obtain ⟨rfl, rfl⟩ := H
 go_enter Try.func19, Try.ntmps19
 go_wp2_with (first | ((with_reducible refine gate_callee (f := 74) rfl ?_); refine goesL_ (some 7) rfl rfl Try.func74 (by kernel_rfl) rfl #[.slice A0 l0.length c0] rfl (by (try simp only [List.map_toArray, List.map_cons, List.map_nil]); first | done | rfl | (simp only [List.length_drop, List.length_take]; rfl)) ?_; (with_reducible refine (spec_l1New.calls k _ _ l0 t493 t494 t495 w _ ?side1 ?side2 ?side3 A2.out).mono ?_); (case side1 => repeat (first | (with_reducible first | exact HB.out | apply below_alloc | apply pw_below_drewN | apply below_drew1) | exact HB.out)); (case side2 => exact HR0.out); (case side3 => exact HC0.out); rintro e w5 ⟨g496, rfl, hi, hb, hb2⟩; refine ⟨_, rfl, ?_⟩; have n0_ := Aside0.mk (hb); have n1_ := Aside0.mk (hi); clear HB; have HB := n0_; have HI496 := n1_; clear n0_ n1_; (try clear hb); (try clear hb2); (try clear hk); (try clear hi)) | ((with_reducible refine gate_callee (f := 75) rfl ?_); refine goesL_ (some 9) rfl rfl Try.func75 (by kernel_rfl) rfl #[.pointer (some ⟨g496, 0, none⟩)] rfl (by (try simp only [List.map_toArray, List.map_cons, List.map_nil]); first | done | rfl | (simp only [List.length_drop, List.length_take]; rfl)) ?_; (with_reducible refine (spec_l8Any.calls k g496 t493 t494 t495 t497 t500 t501 w _ ?side1 ?side2 A3.out).mono ?_); (case side1 => repeat (first | (with_reducible first | exact HI496.out | apply IsS157.alloc | apply IsS157.drewN | apply IsS157.drew | apply IsS157.set_1 | apply IsS157.set_2) | exact HI496.out)); (case side2 => repeat (first | (with_reducible first | exact HB.out | apply below_alloc | apply pw_below_drewN | apply below_drew1 | refine below_set ?_ (IsS157.ge HI496.out)) | exact HB.out)); rintro e w6 ⟨v498, rfl, ho0, hi, hb, hk⟩; refine ⟨_, rfl, ?_⟩; have n0_ := Aside0.mk (Kd.R_lower ho0 (below_size (by repeat (first | (with_reducible first | exact HB.out | apply below_alloc | apply pw_below_drewN | apply below_drew1 | refine below_set ?_ (IsS157.ge HI496.out)) | exact HB.out)))); have n1_ := Aside0.mk (hb); have n2_ := Aside0.mk (hi); clear HB; clear HI496; have HO499 := n0_; have HB := n1_; have HI496 := n2_; clear n0_ n1_ n2_; (try clear hb); (try clear hb2); (try clear hk); (try clear hi); (try clear ho0)) | ((with_reducible refine gate_callee (f := 91) rfl ?_); refine goesL_ (some 12) rfl rfl Try.func91 (by kernel_rfl) rfl #[.pointer (some ⟨g496, 0, none⟩), .int .i64 150] rfl (by (try simp only [List.map_toArray, List.map_cons, List.map_nil]); first | done | rfl | (simp only [List.length_drop, List.length_take]; rfl)) ?_; (with_reducible refine (spec_l1Below.calls g496 t493 t500 t501 150 t502 t503 t504 w _ ?side1 ?side2 A4.out).mono ?_); (case side1 => repeat (first | (with_reducible first | exact HI496.out | apply IsS157.alloc | apply IsS157.drewN | apply IsS157.drew | apply IsS157.set_1 | apply IsS157.set_2) | exact HI496.out)); (case side2 => repeat (first | (with_reducible first | exact HB.out | apply below_alloc | apply pw_below_drewN | apply below_drew1 | refine below_set ?_ (IsS157.ge HI496.out)) | exact HB.out)); rintro e w7 ⟨rfl, hi, hb, hk⟩; refine ⟨_, rfl, ?_⟩; have n0_ := Aside0.mk (Kd.R_mono (Kd.R_keep (IsS157.apart (show IsS157 w _ g496 t493 t500 t501 from by repeat (first | (with_reducible first | exact HI496.out | apply IsS157.alloc | apply IsS157.drewN | apply IsS157.drew | apply IsS157.set_1 | apply IsS157.set_2) | exact HI496.out)) (by (with_reducible repeat (first | apply Kd.R_alloc | apply Kd.R_drewN | apply Kd.R_drew)); exact HO499.out) (by decide)) hk (fun _ h => h.2)) (fun _ h => h.1)); have n1_ := Aside0.mk (hb); have n2_ := Aside0.mk (hi); clear HO499; clear HB; clear HI496; have HO499 := n0_; have HB := n1_; have HI496 := n2_; clear n0_ n1_ n2_; (try clear hb); (try clear hb2); (try clear hk); (try clear hi)))
 go_ret2
 exact ⟨_, by first | rfl | (simp [errW_none, errW_some] <;> rfl) | (simp [*, errW_none, errW_some] <;> rfl), by (with_reducible repeat (first | apply Kd.R_alloc | apply Kd.R_drewN | apply Kd.R_drew)); exact HO499.out, by repeat (first | (with_reducible first | exact HB.out | apply below_alloc | apply pw_below_drewN | apply below_drew1 | refine below_set ?_ (IsS157.ge HI496.out)) | exact HB.out)⟩
end Go.Proofs.Ytbhlmeghbfmgiaa.F

namespace Go.Proofs.Ytbhlmeghbfmgiaa.F
open Go.RowKit Go.Proofs.YtbhlmeghbfmgiaaW.PrintWords Go.Proofs.YtbhlmeghbfmgiaaW.PrintLast Go.Proofs.YtbhlmeghbfmgiaaW.PrintMore
attribute [local go_sem] max2_int min2_int max_two min_two max_three min_three max_four min_four
set_option linter.unusedVariables false
set_option linter.unusedSimpArgs false
def laws_ascends.l0 : Nat → List Int → Int → Option (Bool)
 | 0, _, _ => none
 | k + 1, x0, x3 => if x3 < (x0.length : Int) then (if 0 ≤ (wrap64 (x3 - 1)) then (if (wrap64 (x3 - 1)) < (x0.length : Int) then (if 0 ≤ x3 then (if (rd x0 (wrap64 (x3 - 1))) ≥ (rd x0 x3) then (some false) else (laws_ascends.l0 k x0 (wrap64 (x3 + 1)))) else (none)) else (none)) else (none)) else (some true)
def laws_ascends.f (k : Nat) (l0 : List Int) : Option (Bool) := laws_ascends.l0 k l0 1
set_option maxHeartbeats 8000000 in
set_option maxRecDepth 100000 in
theorem laws_ascends.calls (k : Nat) (A0 : Option Addr) (c0 : Nat) (l0 : List Int) (r : Bool) (w : World) (hr0 : Kd.C (Kd.int .i64) w A0 l0.length l0) (hc0 : l0.length ≤ c0) (h : laws_ascends.f k l0 = some r) :
  Calls Try.prog 20 #[.slice A0 l0.length c0] w fun e w' => e = .returned (.bool r) ∧ Drawn0 w w' := by
 have HR0 := Aside0.mk hr0
 have HC0 := Aside0.mk hc0
 clear hr0 hc0
 have H : (laws_ascends.l0 k l0 1) = some r := h
 clear h
 have H' := Aside0.mk H
 clear H
 go_enter Try.func20, Try.ntmps20
 go_wp2
 repeat (go_quiet (fail); try go_wp2)
 go_loopg [3] k (fun kq v3 w' => ∃ (x3_1 : Int), v3 = .int .i64 x3_1 ∧ Aside0 (laws_ascends.l0 kq l0 x3_1 = some r) ∧ Aside0 (kq ≤ k) ∧ Drawn0 w w')
 case atStart => exact ⟨(1), (by first | rfl | (simp; done) | (simp [*]; done)), H', ⟨Nat.le_refl _⟩, by repeat (first | exact Drawn0.refl _ | apply Drawn0.step)⟩
 case round =>
  clear H'
  obtain ⟨x3_1, rfl, HA, HK1, ⟨m1, rfl⟩⟩ := hrel
  cases gk with
  | zero => exact absurd HA.out (by simp [laws_ascends.l0])
  | succ k1 =>
   have H := HA.out
   clear HA
   simp only [laws_ascends.l0] at H
   by_cases c2 : x3_1 < (l0.length : Int)
   ·
    rw [if_pos c2] at H
    have c2b0 : decide (x3_1 < (l0.length : Int)) = true := decide_eq_true c2
    clear c2
    obtain ⟨ji3, hji3⟩ : ∃ j_ : Int, (wrap64 (x3_1 - 1)) = j_ := ⟨_, rfl⟩
    replace H : (if 0 ≤ (ji3) then (if (ji3) < (l0.length : Int) then (if 0 ≤ x3_1 then (if (rd l0 (ji3)) ≥ (rd l0 x3_1) then (some false) else (laws_ascends.l0 k1 l0 (wrap64 (x3_1 + 1)))) else (none)) else (none)) else (none)) = some r := by first | (rw [hji3] at H; exact H) | (simp only [hji3] at H ⊢; exact H)
    have hji3w : (IntKind.i64.wrap (x3_1 - 1)) = ji3 := (i64_w _).trans hji3
    by_cases c4 : 0 ≤ (ji3)
    ·
     rw [if_pos c4] at H
     have c4b0 : decide (0 ≤ (ji3)) = true := decide_eq_true c4
     clear c4
     by_cases c5 : (ji3) < (l0.length : Int)
     ·
      rw [if_pos c5] at H
      have c5b0 : decide ((ji3) < (l0.length : Int)) = true := decide_eq_true c5
      clear c5
      by_cases c6 : 0 ≤ x3_1
      ·
       rw [if_pos c6] at H
       have c6b0 : decide (0 ≤ x3_1) = true := decide_eq_true c6
       clear c6
       by_cases c7 : (rd l0 (ji3)) ≥ (rd l0 x3_1)
       ·
        rw [if_pos c7] at H
        have c7b0 : decide ((rd l0 x3_1) ≤ (rd l0 (ji3))) = true := decide_eq_true c7
        clear c7
        obtain rfl := Option.some.inj H
        have p505 : 0 ≤ ((ji3) : Int) := of_decide_eq_true (by first | (with_reducible assumption) | assumption)
        have q505 : (ji3) < (l0.length : Int) := of_decide_eq_true (by first | (with_reducible assumption) | assumption)
        obtain ⟨ad505, e505, hx505_0⟩ := Kd.at_int HR0.out (ji3) p505 q505
        cases e505
        replace p505 := eq_true p505
        replace q505 := eq_true q505
        have p506 : 0 ≤ (x3_1 : Int) := of_decide_eq_true (by first | (with_reducible assumption) | assumption)
        have q506 : x3_1 < (l0.length : Int) := of_decide_eq_true (by first | (with_reducible assumption) | assumption)
        obtain ⟨ad506, e506, hx506_0⟩ := Kd.at_int HR0.out x3_1 p506 q506
        obtain rfl : ad505 = ad506 := (by injection e506)
        replace p506 := eq_true p506
        replace q506 := eq_true q506
        go_wp2
        repeat (go_quiet (fail); try go_wp2)
        go_ret
        exact ⟨by first | rfl | (simp; done) | (simp only [← hji3] <;> (first | rfl | simp)) | (simp [*]; done), by repeat (first | exact Drawn0.refl _ | apply Drawn0.step)⟩
       ·
        rw [if_neg c7] at H
        have c7b0 : decide ((rd l0 x3_1) ≤ (rd l0 (ji3))) = false := decide_eq_false c7
        clear c7
        have H' := Aside0.mk H
        clear H
        have p505 : 0 ≤ ((ji3) : Int) := of_decide_eq_true (by first | (with_reducible assumption) | assumption)
        have q505 : (ji3) < (l0.length : Int) := of_decide_eq_true (by first | (with_reducible assumption) | assumption)
        obtain ⟨ad505, e505, hx505_0⟩ := Kd.at_int HR0.out (ji3) p505 q505
        cases e505
        replace p505 := eq_true p505
        replace q505 := eq_true q505
        have p506 : 0 ≤ (x3_1 : Int) := of_decide_eq_true (by first | (with_reducible assumption) | assumption)
        have q506 : x3_1 < (l0.length : Int) := of_decide_eq_true (by first | (with_reducible assumption) | assumption)
        obtain ⟨ad506, e506, hx506_0⟩ := Kd.at_int HR0.out x3_1 p506 q506
        obtain rfl : ad505 = ad506 := (by injection e506)
        replace p506 := eq_true p506
        replace q506 := eq_true q506
        go_wp2
        repeat (go_quiet (fail); try go_wp2)
        go_roundg k1
        case measure => have := HK1.out; omega
        case rel => exact ⟨(wrap64 (x3_1 + 1)), (by first | rfl | (simp; done) | (simp [*]; done)), H', ⟨by have := HK1.out; omega⟩, by repeat (first | exact Drawn0.refl _ | apply Drawn0.step)⟩
      ·
       rw [if_neg c6] at H
       exact absurd H (by simp)
     ·
      rw [if_neg c5] at H
      exact absurd H (by simp)
    ·
     rw [if_neg c4] at H
     exact absurd H (by simp)
   ·
    rw [if_neg c2] at H
    have c2b0 : decide (x3_1 < (l0.length : Int)) = false := decide_eq_false c2
    clear c2
    obtain rfl := Option.some.inj H
    go_wp2
    repeat (go_quiet (fail); try go_wp2)
    go_ret
    exact ⟨by first | rfl | (simp; done) | (simp [*]; done), by repeat (first | exact Drawn0.refl _ | apply Drawn0.step)⟩
end Go.Proofs.Ytbhlmeghbfmgiaa.F
