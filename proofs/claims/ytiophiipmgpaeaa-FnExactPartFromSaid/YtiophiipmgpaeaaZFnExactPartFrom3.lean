/- FnExactPartFrom, part 3 of 4: texts of the claim, joined into one file. -/
import Derived.Test.YtiophiipmgpaeaaZFnExactPartFrom2
import Derived.Says
import Derived.Shelf.Abstract
import Derived.Lib.SliceRun

-- Written for this claim by the kit's print.py out of the translation, called by wip/tools/fprint.py. Lean checks it.
namespace Go.Proofs.Ytiophiipmgpaeaa.F
open Go.RowKit Go.Proofs.YtiophiipmgpaeaaW.PrintWords Go.Proofs.YtiophiipmgpaeaaW.PrintLast Go.Proofs.YtiophiipmgpaeaaW.PrintMore
attribute [local go_sem] max2_int min2_int max_two min_two max_three min_three max_four min_four   -- for this text's walks alone
set_option linter.unusedVariables false
set_option linter.unusedSimpArgs false

/-! ### impl_IsScore: function 97 -/
def impl_IsScore.l0 : Nat → List (S118) → List (S118) → Int → Int → Option (Bool)
 | 0, _, _, _, _ => none
 | k + 1, x0, x5, x6, x7 => if x7 < x6 then (if 0 ≤ x7 then (if x7 < (x5.length : Int) then ((impl_InRange.f ((rd_T118 x5 x7).f0) 0 2000).bind fun t569 => (if t569 = true then ((impl_InRange.f ((rd_T118 x5 x7).f1) 1 96).bind fun t570 => (if t570 = true then ((impl_InRange.f ((rd_T118 x5 x7).f2) 21 108).bind fun t571 => (if t571 = true then ((impl_InRange.f ((rd_T118 x5 x7).f3) 1 4).bind fun t572 => (if t572 = true then (if x7 > 0 then (if 0 ≤ (wrap64 (x7 - 1)) then (if (wrap64 (x7 - 1)) < (x0.length : Int) then ((impl_eventOrder.f k ((rd_T118 x0 (wrap64 (x7 - 1))).f0) ((rd_T118 x0 (wrap64 (x7 - 1))).f1) ((rd_T118 x0 (wrap64 (x7 - 1))).f2) ((rd_T118 x0 (wrap64 (x7 - 1))).f3) ((rd_T118 x5 x7).f0) ((rd_T118 x5 x7).f1) ((rd_T118 x5 x7).f2) ((rd_T118 x5 x7).f3)).bind fun t574 => (if t574 ≥ 0 then (some false) else (impl_IsScore.l0 k x0 x5 x6 (wrap64 (x7 + 1))))) else (none)) else (none)) else (impl_IsScore.l0 k x0 x5 x6 (wrap64 (x7 + 1)))) else (some false))) else (some false))) else (some false))) else (some false))) else (none)) else (none)) else (some (decide ((x0.length : Int) ≤ 40)))
def impl_IsScore.f (k : Nat) (l0 : List (S118)) : Option (Bool) := impl_IsScore.l0 k l0 l0 (l0.length : Int) 0
def impl_IsScore.T4 : Bool × List (List Nat × List Nat) := (true, [([], []), ([0], [0]), ([1], [1]), ([2], [2]), ([3, 2], [3]), ([4], [4]), ([5, 4], [4, 5]), ([6, 4, 4], [4, 6]), ([7, 4], [4, 7]), ([4, 8], [4, 8]), ([9, 7], [9]), ([10], [10]), ([11, 10], [10, 11]), ([12, 10, 10], [10, 12]), ([13, 10], [10, 13]), ([10, 14], [10, 14]), ([15, 13], [15]), ([16], [16]), ([17, 16], [16, 17]), ([18, 16, 16], [16, 18]), ([19, 16], [16, 19]), ([16, 20], [16, 20]), ([21, 19], [21]), ([22], [22]), ([23, 22], [22, 23]), ([24, 22, 22], [22, 24]), ([25], [25]), ([25], [25]), ([27, 25], [25, 27]), ([26, 28, 25], [25, 26, 28]), ([29, 25], [25, 29]), ([25], [25]), ([30, 31, 25, 25], [25, 30, 31]), ([32, 25], [25, 32]), ([25, 33, 22], [22, 25, 33]), ([22, 34], [22, 34])])
def impl_IsScore.B4 : List Nat := [0, 1, 3, 7, 15, 31, 63, 127, 255, 511, 1023, 2047, 4095, 8191, 16383, 32767, 65535, 131071, 262143, 524287, 1048575, 2097151, 4194303, 8388607, 16777215, 33554431, 67108863, 67108863, 201326591, 536870911, 1073741823, 67108863, 4294967295, 8589934591, 17179869183, 34359738367]
theorem impl_IsScore.tab4 : rtab .any (opsOf Try.f97 4) = impl_IsScore.T4 := by kernel_rfl
theorem impl_IsScore.bits4 : waitsOk impl_IsScore.T4.2 impl_IsScore.B4 = true := by kernel_rfl
set_option maxHeartbeats 8000000 in
set_option maxRecDepth 100000 in
theorem impl_IsScore.calls (k : Nat) (A0 : Option Addr) (c0 : Nat) (l0 : List (S118)) (r : Bool) (w : World) (hr0 : Kd.C k118 w A0 l0.length l0) (hc0 : l0.length ≤ c0) (h : impl_IsScore.f k l0 = some r) :
  Calls Try.prog 97 #[.slice A0 l0.length c0] w fun e w' => e = .returned (.bool r) ∧ Below w.heap.size w w' := by
 have hu118 := Try.underlying118
 have HR0 := Aside0.mk hr0
 have HC0 := Aside0.mk hc0
 clear hr0 hc0
 have HB := Aside0.mk (Below.refl w.heap.size w)
 have H : (impl_IsScore.l0 k l0 l0 (l0.length : Int) 0) = some r := h
 clear h
 have H' := Aside0.mk H
 clear H
 go_enter Try.func97, Try.ntmps97
 go_wp2
 go_loopg [7] k (fun kq v7 w' => ∃ (x7_1 : Int), v7 = .int .i64 x7_1 ∧ Aside0 (impl_IsScore.l0 kq l0 l0 (l0.length : Int) x7_1 = some r) ∧ Aside0 (kq ≤ k) ∧ Aside0 (Below w.heap.size w w'))
 case atStart => exact ⟨(0), (by first | rfl | (simp; done) | (simp [*]; done)), H', ⟨Nat.le_refl _⟩, ⟨by repeat (first | (with_reducible first | exact HB.out | apply below_alloc | apply pw_below_drewN | apply below_drew1) | exact HB.out)⟩⟩
 case round =>
  clear H'
  obtain ⟨x7_1, rfl, HA, HK1, HB⟩ := hrel
  cases gk with
  | zero => exact absurd HA.out (by simp [impl_IsScore.l0])
  | succ k1 =>
   have H := HA.out
   clear HA
   simp only [impl_IsScore.l0] at H
   by_cases c2 : x7_1 < (l0.length : Int)
   ·
    rw [if_pos c2] at H
    have c2b0 : decide (x7_1 < (l0.length : Int)) = true := decide_eq_true c2
    clear c2
    by_cases c3 : 0 ≤ x7_1
    ·
     rw [if_pos c3] at H
     have c3b0 : decide (0 ≤ x7_1) = true := decide_eq_true c3
     clear c3
     by_cases c4 : x7_1 < (l0.length : Int)
     ·
      rw [if_pos c4] at H
      have c4b0 : decide (x7_1 < (l0.length : Int)) = true := decide_eq_true c4
      clear c4
      replace H := Option.bind_eq_some_iff.mp H
      obtain ⟨t569, A50, H⟩ := H
      try dsimp only at H
      have A5 := Aside0.mk A50
      clear A50
      by_cases c6 : t569 = true
      ·
       subst c6
       rw [if_pos rfl] at H
       replace H := Option.bind_eq_some_iff.mp H
       obtain ⟨t570, A70, H⟩ := H
       try dsimp only at H
       have A7 := Aside0.mk A70
       clear A70
       by_cases c8 : t570 = true
       ·
        subst c8
        rw [if_pos rfl] at H
        replace H := Option.bind_eq_some_iff.mp H
        obtain ⟨t571, A90, H⟩ := H
        try dsimp only at H
        have A9 := Aside0.mk A90
        clear A90
        by_cases c10 : t571 = true
        ·
         subst c10
         rw [if_pos rfl] at H
         replace H := Option.bind_eq_some_iff.mp H
         obtain ⟨t572, A110, H⟩ := H
         try dsimp only at H
         have A11 := Aside0.mk A110
         clear A110
         by_cases c12 : t572 = true
         ·
          subst c12
          rw [if_pos rfl] at H
          by_cases c13 : x7_1 > 0
          ·
           rw [if_pos c13] at H
           have c13b0 : decide (0 < x7_1) = true := decide_eq_true c13
           clear c13
           obtain ⟨ji14, hji14⟩ : ∃ j_ : Int, (wrap64 (x7_1 - 1)) = j_ := ⟨_, rfl⟩
           replace H : (if 0 ≤ (ji14) then (if (ji14) < (l0.length : Int) then ((impl_eventOrder.f k1 ((rd_T118 l0 (ji14)).f0) ((rd_T118 l0 (ji14)).f1) ((rd_T118 l0 (ji14)).f2) ((rd_T118 l0 (ji14)).f3) ((rd_T118 l0 x7_1).f0) ((rd_T118 l0 x7_1).f1) ((rd_T118 l0 x7_1).f2) ((rd_T118 l0 x7_1).f3)).bind fun t574 => (if t574 ≥ 0 then (some false) else (impl_IsScore.l0 k1 l0 l0 (l0.length : Int) (wrap64 (x7_1 + 1))))) else (none)) else (none)) = some r := by first | (rw [hji14] at H; exact H) | (simp only [hji14] at H ⊢; exact H)
           (try rw [hji14] at A5)
           (try rw [hji14] at A7)
           (try rw [hji14] at A9)
           (try rw [hji14] at A11)
           have hji14w : (IntKind.i64.wrap (x7_1 - 1)) = ji14 := (i64_w _).trans hji14
           by_cases c15 : 0 ≤ (ji14)
           ·
            rw [if_pos c15] at H
            have c15b0 : decide (0 ≤ (ji14)) = true := decide_eq_true c15
            clear c15
            by_cases c16 : (ji14) < (l0.length : Int)
            ·
             rw [if_pos c16] at H
             have c16b0 : decide ((ji14) < (l0.length : Int)) = true := decide_eq_true c16
             clear c16
             replace H := Option.bind_eq_some_iff.mp H
             obtain ⟨t574, A170, H⟩ := H
             try dsimp only at H
             have A17 := Aside0.mk A170
             clear A170
             by_cases c18 : t574 ≥ 0
             ·
              rw [if_pos c18] at H
              have c18b0 : decide (0 ≤ t574) = true := decide_eq_true c18
              clear c18
              obtain rfl := Option.some.inj H
              have p567 : 0 ≤ (x7_1 : Int) := of_decide_eq_true (by first | (with_reducible assumption) | assumption)
              have q567 : x7_1 < (l0.length : Int) := of_decide_eq_true (by first | (with_reducible assumption) | assumption)
              obtain ⟨ad567, e567, hx567_0, hx567_1, hx567_2, hx567_3⟩ := at_T118 HR0.out x7_1 p567 q567
              cases e567
              replace hx567_0 := (HB.out.cell (World.block_lt_of_cell? w _ hx567_0)).trans hx567_0
              replace hx567_1 := (HB.out.cell (World.block_lt_of_cell? w _ hx567_1)).trans hx567_1
              replace hx567_2 := (HB.out.cell (World.block_lt_of_cell? w _ hx567_2)).trans hx567_2
              replace hx567_3 := (HB.out.cell (World.block_lt_of_cell? w _ hx567_3)).trans hx567_3
              replace p567 := eq_true p567
              replace q567 := eq_true q567
              try go_wp2_with (first | ((with_reducible refine gate_dst (N := 4) rfl ?_); refine box_event ?hg (N := 4) ?hd (cs := #[.int .i64 0, .int .i64 0, .int .i64 0, .int .i64 0]) (t := 118) ?hr ?_; (case hd => rfl); (case hg => rfl); (case hr => first | (go_simp; done) | (go_simp; rfl)); intro gb568 hg w19 hbox hb; have n0_ := Aside0.mk (below_step (by repeat (first | (with_reducible first | exact HB.out | apply below_alloc | apply pw_below_drewN | apply below_drew1) | exact HB.out)) hb); have n1_ := Aside0.mk (hbox); have n2_ := Aside0.mk ((by rw [hg]; exact (below_size (by repeat (first | (with_reducible first | exact HB.out | apply below_alloc | apply pw_below_drewN | apply below_drew1) | exact HB.out))) : w.heap.size ≤ gb568)); have n3_ := Aside0.mk ((by rw [hg]; exact (below_size (by repeat (first | (with_reducible first | exact HB.out | apply below_alloc | apply pw_below_drewN | apply below_drew1) | exact HB.out))) : w.heap.size ≤ gb568)); clear HB; have HB := n0_; have BK568 := n1_; have GW568 := n2_; have GE568 := n3_; clear n0_ n1_ n2_ n3_; clear hb hbox hg; have hcz20_0 : w19.cell? ⟨gb568, 0, none⟩ = some (.int .i64 0) := (blk_cell BK568.out 0).trans rfl; have hcz20_1 : w19.cell? ⟨gb568, 1, none⟩ = some (.int .i64 0) := (blk_cell BK568.out 1).trans rfl; have hcz20_2 : w19.cell? ⟨gb568, 2, none⟩ = some (.int .i64 0) := (blk_cell BK568.out 2).trans rfl; have hcz20_3 : w19.cell? ⟨gb568, 3, none⟩ = some (.int .i64 0) := (blk_cell BK568.out 3).trans rfl; have hfz20_0 := blk_frozen BK568.out 0; have hfz20_1 := blk_frozen BK568.out 1; have hfz20_2 := blk_frozen BK568.out 2; have hfz20_3 := blk_frozen BK568.out 3))
              have n0_ : Aside0 (((((w19.setCell ⟨gb568, 0, none⟩ (.int .i64 ((rd_T118 l0 x7_1).f0))).setCell ⟨gb568, 1, none⟩ (.int .i64 ((rd_T118 l0 x7_1).f1))).setCell ⟨gb568, 2, none⟩ (.int .i64 ((rd_T118 l0 x7_1).f2))).setCell ⟨gb568, 3, none⟩ (.int .i64 ((rd_T118 l0 x7_1).f3))).heap[gb568]? = some (.cells #[.int .i64 ((rd_T118 l0 x7_1).f0), .int .i64 ((rd_T118 l0 x7_1).f1), .int .i64 ((rd_T118 l0 x7_1).f2), .int .i64 ((rd_T118 l0 x7_1).f3)] 118 (0, 0))) := ⟨by (with_reducible repeat (first | refine blk_drewN ?_ _ | refine blk_drew ?_ | refine blk_alloc ?_ _)); refine blk_put (cs := #[.int .i64 ((rd_T118 l0 x7_1).f0), .int .i64 ((rd_T118 l0 x7_1).f1), .int .i64 ((rd_T118 l0 x7_1).f2), .int .i64 0]) ?_ 3 _ rfl; (with_reducible repeat (first | refine blk_drewN ?_ _ | refine blk_drew ?_ | refine blk_alloc ?_ _)); refine blk_put (cs := #[.int .i64 ((rd_T118 l0 x7_1).f0), .int .i64 ((rd_T118 l0 x7_1).f1), .int .i64 0, .int .i64 0]) ?_ 2 _ rfl; (with_reducible repeat (first | refine blk_drewN ?_ _ | refine blk_drew ?_ | refine blk_alloc ?_ _)); refine blk_put (cs := #[.int .i64 ((rd_T118 l0 x7_1).f0), .int .i64 0, .int .i64 0, .int .i64 0]) ?_ 1 _ rfl; (with_reducible repeat (first | refine blk_drewN ?_ _ | refine blk_drew ?_ | refine blk_alloc ?_ _)); refine blk_put (cs := #[.int .i64 0, .int .i64 0, .int .i64 0, .int .i64 0]) ?_ 0 _ rfl; (with_reducible repeat (first | refine blk_drewN ?_ _ | refine blk_drew ?_ | refine blk_alloc ?_ _)); exact BK568.out⟩
              have n1_ : Aside0 (Below w.heap.size w ((((w19.setCell ⟨gb568, 0, none⟩ (.int .i64 ((rd_T118 l0 x7_1).f0))).setCell ⟨gb568, 1, none⟩ (.int .i64 ((rd_T118 l0 x7_1).f1))).setCell ⟨gb568, 2, none⟩ (.int .i64 ((rd_T118 l0 x7_1).f2))).setCell ⟨gb568, 3, none⟩ (.int .i64 ((rd_T118 l0 x7_1).f3)))) := ⟨by repeat (first | (with_reducible first | exact HB.out | apply below_alloc | apply pw_below_drewN | apply below_drew1 | refine below_set ?_ GE568.out) | exact HB.out)⟩
              (try clear BK568)
              (try clear HB)
              generalize ((((w19.setCell ⟨gb568, 0, none⟩ (.int .i64 ((rd_T118 l0 x7_1).f0))).setCell ⟨gb568, 1, none⟩ (.int .i64 ((rd_T118 l0 x7_1).f1))).setCell ⟨gb568, 2, none⟩ (.int .i64 ((rd_T118 l0 x7_1).f2))).setCell ⟨gb568, 3, none⟩ (.int .i64 ((rd_T118 l0 x7_1).f3))) = w21 at n0_ n1_ ⊢
              have BK568 := n0_
              have HB := n1_
              clear n0_ n1_
              have n0_ := Aside0.mk (blk_drew BK568.out)
              have n1_ := Aside0.mk (below_drew1 HB.out)
              clear BK568
              clear HB
              have BK568 := n0_
              have HB := n1_
              clear n0_ n1_
              have p573 : 0 ≤ ((ji14) : Int) := of_decide_eq_true (by first | (with_reducible assumption) | assumption)
              have q573 : (ji14) < (l0.length : Int) := of_decide_eq_true (by first | (with_reducible assumption) | assumption)
              obtain ⟨ad573, e573, hx573_0, hx573_1, hx573_2, hx573_3⟩ := at_T118 HR0.out (ji14) p573 q573
              have hw573_3 := hx573_3
              have hw573_2 := hx573_2
              have hw573_1 := hx573_1
              have hw573_0 := hx573_0
              obtain rfl : ad567 = ad573 := (by injection e573)
              replace hx573_0 := (HB.out.cell (World.block_lt_of_cell? w _ hx573_0)).trans hx573_0
              replace hx573_1 := (HB.out.cell (World.block_lt_of_cell? w _ hx573_1)).trans hx573_1
              replace hx573_2 := (HB.out.cell (World.block_lt_of_cell? w _ hx573_2)).trans hx573_2
              replace hx573_3 := (HB.out.cell (World.block_lt_of_cell? w _ hx573_3)).trans hx573_3
              replace p573 := eq_true p573
              replace q573 := eq_true q573
              refine start_ (n := 36) (S := fun w' => w'.cell? ⟨gb568, 0, none⟩ = some (.int .i64 ((rd_T118 l0 x7_1).f0)) ∧ w'.cell? ⟨gb568, 1, none⟩ = some (.int .i64 ((rd_T118 l0 x7_1).f1)) ∧ w'.cell? ⟨gb568, 2, none⟩ = some (.int .i64 ((rd_T118 l0 x7_1).f2)) ∧ w'.cell? ⟨gb568, 3, none⟩ = some (.int .i64 ((rd_T118 l0 x7_1).f3)) ∧ w'.cell? (ad567.add (((ji14)).toNat * 4)) = some (.int .i64 ((rd_T118 l0 (ji14)).f0)) ∧ w'.cell? ⟨(ad567.add (((ji14)).toNat * 4)).block, (ad567.add (((ji14)).toNat * 4)).off + 1, none⟩ = some (.int .i64 ((rd_T118 l0 (ji14)).f1)) ∧ w'.cell? ⟨(ad567.add (((ji14)).toNat * 4)).block, (ad567.add (((ji14)).toNat * 4)).off + 2, none⟩ = some (.int .i64 ((rd_T118 l0 (ji14)).f2)) ∧ w'.cell? ⟨(ad567.add (((ji14)).toNat * 4)).block, (ad567.add (((ji14)).toNat * 4)).off + 3, none⟩ = some (.int .i64 ((rd_T118 l0 (ji14)).f3))) (ds := []) #[false, false, false, false, false, false, false, false, false, false, false, false, false, false, false, false, false, false, false, false, false, false, false, false, false, false, false, false, false, false, false, false, false, false, false, false] (by kernel_rfl) rfl rfl ⟨(blk_cell BK568.out 0).trans rfl, (blk_cell BK568.out 1).trans rfl, (blk_cell BK568.out 2).trans rfl, (blk_cell BK568.out 3).trans rfl, ((HB.out.cell (World.block_lt_of_cell? w _ hw573_0)).trans hw573_0), ((HB.out.cell (World.block_lt_of_cell? w _ hw573_1)).trans hw573_1), ((HB.out.cell (World.block_lt_of_cell? w _ hw573_2)).trans hw573_2), ((HB.out.cell (World.block_lt_of_cell? w _ hw573_3)).trans hw573_3)⟩ (fun hHeld => ?_); refine with_tabW impl_IsScore.tab4 impl_IsScore.bits4 (fun HT_ HW_ => ?_)
              generalize w21.drew = w22 at BK568 HB hx573_0 hx573_1 hx573_2 hx573_3 hHeld ⊢
              refine pure_ (i := 0) (N := some 12) (v := ?_) (a' := ?_) #[true, false, false, false, false, false, false, false, false, false, false, false, false, false, false, false, false, false, false, false, false, false, false, false, false, false, false, false, false, false, false, false, false, false, false, false] rfl rfl (any_of HT_.out (by kernel_rfl)) (fun _ _ _ h => h) (Or.inl ⟨by rfl, ?_⟩) ?_ ?_
              rotate_left
              ·
               intro w'
               go_simp
               with_reducible rfl
              rotate_left
              ·
               simp only [Act.put, List.setIfInBounds_toArray, List.set_cons_zero, List.set_cons_succ, i64_w, i32_w]
               rfl
              refine take_ (i := 1) (N := some 13) (v := ?_) (a' := ?_) #[true, true, false, false, false, false, false, false, false, false, false, false, false, false, false, false, false, false, false, false, false, false, false, false, false, false, false, false, false, false, false, false, false, false, false, false] rfl rfl (take_ofW HT_.out HW_.out (by kernel_rfl)) (fun _ _ _ h => h) (Or.inl ⟨by rfl, ?_⟩) hHeld ?_ ?_
              rotate_left
              ·
               rintro w' ⟨s0, s1, s2, s3, s4, s5, s6, s7⟩
               go_simp
               with_reducible rfl
              rotate_left
              ·
               simp only [Act.put, List.setIfInBounds_toArray, List.set_cons_zero, List.set_cons_succ, i64_w, i32_w]
               rfl
              refine one_ (i := 2) (N := some 14) #[true, true, true, false, false, false, false, false, false, false, false, false, false, false, false, false, false, false, false, false, false, false, false, false, false, false, false, false, false, false, false, false, false, false, false, false] rfl rfl (one_of HT_.out (by kernel_rfl)) (by decide) (fun K hK => ?_)
              refine goes_ Try.func82 (by kernel_rfl) rfl #[.int .i64 ((rd_T118 l0 x7_1).f0), .int .i64 0, .int .i64 2000] (by rfl) rfl rfl (by (try simp only [List.map_toArray, List.map_cons, List.map_nil]); first | done | rfl | (simp only [List.length_drop, List.length_take]; rfl)) ?_
              with_reducible refine (impl_InRange.calls ((rd_T118 l0 x7_1).f0) 0 2000 true _ A5.out).mono ?_
              rintro e w' ⟨rfl, ⟨nd, rfl⟩⟩
              refine ⟨_, rfl, ?_⟩
              refine hK.out _ _ ⟨(blk_cell BK568.out 0).trans rfl, (blk_cell BK568.out 1).trans rfl, (blk_cell BK568.out 2).trans rfl, (blk_cell BK568.out 3).trans rfl, ((HB.out.cell (World.block_lt_of_cell? w _ hw573_0)).trans hw573_0), ((HB.out.cell (World.block_lt_of_cell? w _ hw573_1)).trans hw573_1), ((HB.out.cell (World.block_lt_of_cell? w _ hw573_2)).trans hw573_2), ((HB.out.cell (World.block_lt_of_cell? w _ hw573_3)).trans hw573_3)⟩ (fun hHeld => ?_)
              clear hK K
              refine norm_ (a' := ?_) ?_ ?_
              rotate_left
              ·
               show Act.put _ (some 14) _ = _
               simp only [Act.put, List.setIfInBounds_toArray, List.set_cons_zero, List.set_cons_succ, i64_w, i32_w]
               rfl
              refine pure_ (i := 3) (N := some 15) (v := ?_) (a' := ?_) #[true, true, true, true, false, false, false, false, false, false, false, false, false, false, false, false, false, false, false, false, false, false, false, false, false, false, false, false, false, false, false, false, false, false, false, false] rfl rfl (any_of HT_.out (by kernel_rfl)) (fun _ _ _ h => h) (Or.inl ⟨by rfl, ?_⟩) ?_ ?_
              rotate_left
              ·
               intro w'
               go_simp
               with_reducible rfl
              rotate_left
              ·
               simp only [Act.put, List.setIfInBounds_toArray, List.set_cons_zero, List.set_cons_succ, i64_w, i32_w]
               rfl
              refine pure_ (i := 4) (N := some 16) (v := ?_) (a' := ?_) #[true, true, true, true, true, false, false, false, false, false, false, false, false, false, false, false, false, false, false, false, false, false, false, false, false, false, false, false, false, false, false, false, false, false, false, false] rfl rfl (any_of HT_.out (by kernel_rfl)) (fun _ _ _ h => h) (Or.inl ⟨by rfl, ?_⟩) ?_ ?_
              rotate_left
              ·
               intro w'
               go_simp
               with_reducible rfl
              rotate_left
              ·
               simp only [Act.put, List.setIfInBounds_toArray, List.set_cons_zero, List.set_cons_succ, i64_w, i32_w]
               rfl
              refine pure_ (i := 5) (N := some 17) (v := ?_) (a' := ?_) #[true, true, true, true, true, true, false, false, false, false, false, false, false, false, false, false, false, false, false, false, false, false, false, false, false, false, false, false, false, false, false, false, false, false, false, false] rfl rfl (any_of HT_.out (by kernel_rfl)) (fun _ _ _ h => h) (Or.inl ⟨by rfl, ?_⟩) ?_ ?_
              rotate_left
              ·
               intro w'
               go_simp
               with_reducible rfl
              rotate_left
              ·
               simp only [Act.put, List.setIfInBounds_toArray, List.set_cons_zero, List.set_cons_succ, i64_w, i32_w]
               rfl
              refine take_ (i := 6) (N := some 18) (v := ?_) (a' := ?_) #[true, true, true, true, true, true, true, false, false, false, false, false, false, false, false, false, false, false, false, false, false, false, false, false, false, false, false, false, false, false, false, false, false, false, false, false] rfl rfl (take_ofW HT_.out HW_.out (by kernel_rfl)) (fun _ _ _ h => h) (Or.inl ⟨by rfl, ?_⟩) hHeld ?_ ?_
              rotate_left
              ·
               rintro w' ⟨s0, s1, s2, s3, s4, s5, s6, s7⟩
               go_simp
               with_reducible rfl
              rotate_left
              ·
               simp only [Act.put, List.setIfInBounds_toArray, List.set_cons_zero, List.set_cons_succ, i64_w, i32_w]
               rfl
              refine one_ (i := 7) (N := some 19) #[true, true, true, true, true, true, true, true, false, false, false, false, false, false, false, false, false, false, false, false, false, false, false, false, false, false, false, false, false, false, false, false, false, false, false, false] rfl rfl (one_of HT_.out (by kernel_rfl)) (by decide) (fun K hK => ?_)
              refine goes_ Try.func82 (by kernel_rfl) rfl #[.int .i64 ((rd_T118 l0 x7_1).f1), .int .i64 1, .int .i64 96] (by rfl) rfl rfl (by (try simp only [List.map_toArray, List.map_cons, List.map_nil]); first | done | rfl | (simp only [List.length_drop, List.length_take]; rfl)) ?_
              with_reducible refine (impl_InRange.calls ((rd_T118 l0 x7_1).f1) 1 96 true _ A7.out).mono ?_
              rintro e w' ⟨rfl, ⟨nd, rfl⟩⟩
              refine ⟨_, rfl, ?_⟩
              refine hK.out _ _ ⟨(blk_cell BK568.out 0).trans rfl, (blk_cell BK568.out 1).trans rfl, (blk_cell BK568.out 2).trans rfl, (blk_cell BK568.out 3).trans rfl, ((HB.out.cell (World.block_lt_of_cell? w _ hw573_0)).trans hw573_0), ((HB.out.cell (World.block_lt_of_cell? w _ hw573_1)).trans hw573_1), ((HB.out.cell (World.block_lt_of_cell? w _ hw573_2)).trans hw573_2), ((HB.out.cell (World.block_lt_of_cell? w _ hw573_3)).trans hw573_3)⟩ (fun hHeld => ?_)
              clear hK K
              refine norm_ (a' := ?_) ?_ ?_
              rotate_left
              ·
               show Act.put _ (some 19) _ = _
               simp only [Act.put, List.setIfInBounds_toArray, List.set_cons_zero, List.set_cons_succ, i64_w, i32_w]
               rfl
              refine pure_ (i := 8) (N := some 20) (v := ?_) (a' := ?_) #[true, true, true, true, true, true, true, true, true, false, false, false, false, false, false, false, false, false, false, false, false, false, false, false, false, false, false, false, false, false, false, false, false, false, false, false] rfl rfl (any_of HT_.out (by kernel_rfl)) (fun _ _ _ h => h) (Or.inl ⟨by rfl, ?_⟩) ?_ ?_
              rotate_left
              ·
               intro w'
               go_simp
               with_reducible rfl
              rotate_left
              ·
               simp only [Act.put, List.setIfInBounds_toArray, List.set_cons_zero, List.set_cons_succ, i64_w, i32_w]
               rfl
              refine pure_ (i := 9) (N := some 21) (v := ?_) (a' := ?_) #[true, true, true, true, true, true, true, true, true, true, false, false, false, false, false, false, false, false, false, false, false, false, false, false, false, false, false, false, false, false, false, false, false, false, false, false] rfl rfl (any_of HT_.out (by kernel_rfl)) (fun _ _ _ h => h) (Or.inl ⟨by rfl, ?_⟩) ?_ ?_
              rotate_left
              ·
               intro w'
               go_simp
               with_reducible rfl
              rotate_left
              ·
               simp only [Act.put, List.setIfInBounds_toArray, List.set_cons_zero, List.set_cons_succ, i64_w, i32_w]
               rfl
              refine pure_ (i := 10) (N := some 22) (v := ?_) (a' := ?_) #[true, true, true, true, true, true, true, true, true, true, true, false, false, false, false, false, false, false, false, false, false, false, false, false, false, false, false, false, false, false, false, false, false, false, false, false] rfl rfl (any_of HT_.out (by kernel_rfl)) (fun _ _ _ h => h) (Or.inl ⟨by rfl, ?_⟩) ?_ ?_
              rotate_left
              ·
               intro w'
               go_simp
               with_reducible rfl
              rotate_left
              ·
               simp only [Act.put, List.setIfInBounds_toArray, List.set_cons_zero, List.set_cons_succ, i64_w, i32_w]
               rfl
              refine pure_ (i := 11) (N := some 23) (v := ?_) (a' := ?_) #[true, true, true, true, true, true, true, true, true, true, true, true, false, false, false, false, false, false, false, false, false, false, false, false, false, false, false, false, false, false, false, false, false, false, false, false] rfl rfl (any_of HT_.out (by kernel_rfl)) (fun _ _ _ h => h) (Or.inl ⟨by rfl, ?_⟩) ?_ ?_
              rotate_left
              ·
               intro w'
               go_simp
               with_reducible rfl
              rotate_left
              ·
               simp only [Act.put, List.setIfInBounds_toArray, List.set_cons_zero, List.set_cons_succ, i64_w, i32_w]
               rfl
              refine take_ (i := 12) (N := some 24) (v := ?_) (a' := ?_) #[true, true, true, true, true, true, true, true, true, true, true, true, true, false, false, false, false, false, false, false, false, false, false, false, false, false, false, false, false, false, false, false, false, false, false, false] rfl rfl (take_ofW HT_.out HW_.out (by kernel_rfl)) (fun _ _ _ h => h) (Or.inl ⟨by rfl, ?_⟩) hHeld ?_ ?_
              rotate_left
              ·
               rintro w' ⟨s0, s1, s2, s3, s4, s5, s6, s7⟩
               go_simp
               with_reducible rfl
              rotate_left
              ·
               simp only [Act.put, List.setIfInBounds_toArray, List.set_cons_zero, List.set_cons_succ, i64_w, i32_w]
               rfl
              refine one_ (i := 13) (N := some 25) #[true, true, true, true, true, true, true, true, true, true, true, true, true, true, false, false, false, false, false, false, false, false, false, false, false, false, false, false, false, false, false, false, false, false, false, false] rfl rfl (one_of HT_.out (by kernel_rfl)) (by decide) (fun K hK => ?_)
              refine goes_ Try.func82 (by kernel_rfl) rfl #[.int .i64 ((rd_T118 l0 x7_1).f2), .int .i64 21, .int .i64 108] (by rfl) rfl rfl (by (try simp only [List.map_toArray, List.map_cons, List.map_nil]); first | done | rfl | (simp only [List.length_drop, List.length_take]; rfl)) ?_
              with_reducible refine (impl_InRange.calls ((rd_T118 l0 x7_1).f2) 21 108 true _ A9.out).mono ?_
              rintro e w' ⟨rfl, ⟨nd, rfl⟩⟩
              refine ⟨_, rfl, ?_⟩
              refine hK.out _ _ ⟨(blk_cell BK568.out 0).trans rfl, (blk_cell BK568.out 1).trans rfl, (blk_cell BK568.out 2).trans rfl, (blk_cell BK568.out 3).trans rfl, ((HB.out.cell (World.block_lt_of_cell? w _ hw573_0)).trans hw573_0), ((HB.out.cell (World.block_lt_of_cell? w _ hw573_1)).trans hw573_1), ((HB.out.cell (World.block_lt_of_cell? w _ hw573_2)).trans hw573_2), ((HB.out.cell (World.block_lt_of_cell? w _ hw573_3)).trans hw573_3)⟩ (fun hHeld => ?_)
              clear hK K
              refine norm_ (a' := ?_) ?_ ?_
              rotate_left
              ·
               show Act.put _ (some 25) _ = _
               simp only [Act.put, List.setIfInBounds_toArray, List.set_cons_zero, List.set_cons_succ, i64_w, i32_w]
               rfl
              refine pure_ (i := 14) (N := some 26) (v := ?_) (a' := ?_) #[true, true, true, true, true, true, true, true, true, true, true, true, true, true, true, false, false, false, false, false, false, false, false, false, false, false, false, false, false, false, false, false, false, false, false, false] rfl rfl (any_of HT_.out (by kernel_rfl)) (fun _ _ _ h => h) (Or.inl ⟨by rfl, ?_⟩) ?_ ?_
              rotate_left
              ·
               intro w'
               go_simp
               with_reducible rfl
              rotate_left
              ·
               simp only [Act.put, List.setIfInBounds_toArray, List.set_cons_zero, List.set_cons_succ, i64_w, i32_w]
               rfl
              refine pure_ (i := 15) (N := some 27) (v := ?_) (a' := ?_) #[true, true, true, true, true, true, true, true, true, true, true, true, true, true, true, true, false, false, false, false, false, false, false, false, false, false, false, false, false, false, false, false, false, false, false, false] rfl rfl (any_of HT_.out (by kernel_rfl)) (fun _ _ _ h => h) (Or.inl ⟨by rfl, ?_⟩) ?_ ?_
              rotate_left
              ·
               intro w'
               go_simp
               with_reducible rfl
              rotate_left
              ·
               simp only [Act.put, List.setIfInBounds_toArray, List.set_cons_zero, List.set_cons_succ, i64_w, i32_w]
               rfl
              refine pure_ (i := 16) (N := some 28) (v := ?_) (a' := ?_) #[true, true, true, true, true, true, true, true, true, true, true, true, true, true, true, true, true, false, false, false, false, false, false, false, false, false, false, false, false, false, false, false, false, false, false, false] rfl rfl (any_of HT_.out (by kernel_rfl)) (fun _ _ _ h => h) (Or.inl ⟨by rfl, ?_⟩) ?_ ?_
              rotate_left
              ·
               intro w'
               go_simp
               with_reducible rfl
              rotate_left
              ·
               simp only [Act.put, List.setIfInBounds_toArray, List.set_cons_zero, List.set_cons_succ, i64_w, i32_w]
               rfl
              refine pure_ (i := 17) (N := some 29) (v := ?_) (a' := ?_) #[true, true, true, true, true, true, true, true, true, true, true, true, true, true, true, true, true, true, false, false, false, false, false, false, false, false, false, false, false, false, false, false, false, false, false, false] rfl rfl (any_of HT_.out (by kernel_rfl)) (fun _ _ _ h => h) (Or.inl ⟨by rfl, ?_⟩) ?_ ?_
              rotate_left
              ·
               intro w'
               go_simp
               with_reducible rfl
              rotate_left
              ·
               simp only [Act.put, List.setIfInBounds_toArray, List.set_cons_zero, List.set_cons_succ, i64_w, i32_w]
               rfl
              refine take_ (i := 18) (N := some 30) (v := ?_) (a' := ?_) #[true, true, true, true, true, true, true, true, true, true, true, true, true, true, true, true, true, true, true, false, false, false, false, false, false, false, false, false, false, false, false, false, false, false, false, false] rfl rfl (take_ofW HT_.out HW_.out (by kernel_rfl)) (fun _ _ _ h => h) (Or.inl ⟨by rfl, ?_⟩) hHeld ?_ ?_
              rotate_left
              ·
               rintro w' ⟨s0, s1, s2, s3, s4, s5, s6, s7⟩
               go_simp
               with_reducible rfl
              rotate_left
              ·
               simp only [Act.put, List.setIfInBounds_toArray, List.set_cons_zero, List.set_cons_succ, i64_w, i32_w]
               rfl
              refine one_ (i := 19) (N := some 31) #[true, true, true, true, true, true, true, true, true, true, true, true, true, true, true, true, true, true, true, true, false, false, false, false, false, false, false, false, false, false, false, false, false, false, false, false] rfl rfl (one_of HT_.out (by kernel_rfl)) (by decide) (fun K hK => ?_)
              refine goes_ Try.func82 (by kernel_rfl) rfl #[.int .i64 ((rd_T118 l0 x7_1).f3), .int .i64 1, .int .i64 4] (by rfl) rfl rfl (by (try simp only [List.map_toArray, List.map_cons, List.map_nil]); first | done | rfl | (simp only [List.length_drop, List.length_take]; rfl)) ?_
              with_reducible refine (impl_InRange.calls ((rd_T118 l0 x7_1).f3) 1 4 true _ A11.out).mono ?_
              rintro e w' ⟨rfl, ⟨nd, rfl⟩⟩
              refine ⟨_, rfl, ?_⟩
              refine hK.out _ _ ⟨(blk_cell BK568.out 0).trans rfl, (blk_cell BK568.out 1).trans rfl, (blk_cell BK568.out 2).trans rfl, (blk_cell BK568.out 3).trans rfl, ((HB.out.cell (World.block_lt_of_cell? w _ hw573_0)).trans hw573_0), ((HB.out.cell (World.block_lt_of_cell? w _ hw573_1)).trans hw573_1), ((HB.out.cell (World.block_lt_of_cell? w _ hw573_2)).trans hw573_2), ((HB.out.cell (World.block_lt_of_cell? w _ hw573_3)).trans hw573_3)⟩ (fun hHeld => ?_)
              clear hK K
              refine norm_ (a' := ?_) ?_ ?_
              rotate_left
              ·
               show Act.put _ (some 31) _ = _
               simp only [Act.put, List.setIfInBounds_toArray, List.set_cons_zero, List.set_cons_succ, i64_w, i32_w]
               rfl
              refine pure_ (i := 20) (N := some 32) (v := ?_) (a' := ?_) #[true, true, true, true, true, true, true, true, true, true, true, true, true, true, true, true, true, true, true, true, true, false, false, false, false, false, false, false, false, false, false, false, false, false, false, false] rfl rfl (any_of HT_.out (by kernel_rfl)) (fun _ _ _ h => h) (Or.inl ⟨by rfl, ?_⟩) ?_ ?_
              rotate_left
              ·
               intro w'
               go_simp
               with_reducible rfl
              rotate_left
              ·
               simp only [Act.put, List.setIfInBounds_toArray, List.set_cons_zero, List.set_cons_succ, i64_w, i32_w]
               rfl
              refine pure_ (i := 21) (N := some 33) (v := ?_) (a' := ?_) #[true, true, true, true, true, true, true, true, true, true, true, true, true, true, true, true, true, true, true, true, true, true, false, false, false, false, false, false, false, false, false, false, false, false, false, false] rfl rfl (any_of HT_.out (by kernel_rfl)) (fun _ _ _ h => h) (Or.inl ⟨by rfl, ?_⟩) ?_ ?_
              rotate_left
              ·
               intro w'
               go_simp
               with_reducible rfl
              rotate_left
              ·
               simp only [Act.put, List.setIfInBounds_toArray, List.set_cons_zero, List.set_cons_succ, i64_w, i32_w]
               rfl
              refine pure_ (i := 22) (N := some 34) (v := ?_) (a' := ?_) #[true, true, true, true, true, true, true, true, true, true, true, true, true, true, true, true, true, true, true, true, true, true, true, false, false, false, false, false, false, false, false, false, false, false, false, false] rfl rfl (any_of HT_.out (by kernel_rfl)) (fun _ _ _ h => h) (Or.inl ⟨by rfl, ?_⟩) ?_ ?_
              rotate_left
              ·
               intro w'
               go_simp
               with_reducible rfl
              rotate_left
              ·
               simp only [Act.put, List.setIfInBounds_toArray, List.set_cons_zero, List.set_cons_succ, i64_w, i32_w]
               rfl
              refine pure_ (i := 23) (N := some 35) (v := ?_) (a' := ?_) #[true, true, true, true, true, true, true, true, true, true, true, true, true, true, true, true, true, true, true, true, true, true, true, true, false, false, false, false, false, false, false, false, false, false, false, false] rfl rfl (any_of HT_.out (by kernel_rfl)) (fun _ _ _ h => h) (Or.inl ⟨by rfl, ?_⟩) ?_ ?_
              rotate_left
              ·
               intro w'
               go_simp
               with_reducible rfl
              rotate_left
              ·
               simp only [Act.put, List.setIfInBounds_toArray, List.set_cons_zero, List.set_cons_succ, i64_w, i32_w]
               rfl
              refine pure_ (i := 24) (N := some 36) (v := ?_) (a' := ?_) #[true, true, true, true, true, true, true, true, true, true, true, true, true, true, true, true, true, true, true, true, true, true, true, true, true, false, false, false, false, false, false, false, false, false, false, false] rfl rfl (any_of HT_.out (by kernel_rfl)) (fun _ _ _ h => h) (Or.inl ⟨by rfl, ?_⟩) ?_ ?_
              rotate_left
              ·
               intro w'
               go_simp
               with_reducible rfl
              rotate_left
              ·
               simp only [Act.put, List.setIfInBounds_toArray, List.set_cons_zero, List.set_cons_succ, i64_w, i32_w]
               rfl
              refine pure_ (i := 25) (N := some 37) (v := ?_) (a' := ?_) #[true, true, true, true, true, true, true, true, true, true, true, true, true, true, true, true, true, true, true, true, true, true, true, true, true, true, false, false, false, false, false, false, false, false, false, false] rfl rfl (any_of HT_.out (by kernel_rfl)) (fun _ _ _ h => h) (Or.inl ⟨by rfl, ?_⟩) ?_ ?_
              rotate_left
              ·
               intro w'
               go_simp
               with_reducible rfl
              rotate_left
              ·
               simp only [Act.put, List.setIfInBounds_toArray, List.set_cons_zero, List.set_cons_succ, i64_w, i32_w]
               rfl
              refine pure_ (i := 26) (N := some 38) (v := ?_) (a' := ?_) #[true, true, true, true, true, true, true, true, true, true, true, true, true, true, true, true, true, true, true, true, true, true, true, true, true, true, true, false, false, false, false, false, false, false, false, false] rfl rfl (any_of HT_.out (by kernel_rfl)) (fun _ _ _ h => h) (Or.inl ⟨by rfl, ?_⟩) ?_ ?_
              rotate_left
              ·
               intro w'
               go_simp
               with_reducible rfl
              rotate_left
              ·
               simp only [Act.put, List.setIfInBounds_toArray, List.set_cons_zero, List.set_cons_succ, i64_w, i32_w]
               rfl
              refine pure_ (i := 27) (N := some 39) (v := ?_) (a' := ?_) #[true, true, true, true, true, true, true, true, true, true, true, true, true, true, true, true, true, true, true, true, true, true, true, true, true, true, true, true, false, false, false, false, false, false, false, false] rfl rfl (any_of HT_.out (by kernel_rfl)) (fun _ _ _ h => h) (Or.inl ⟨by rfl, ?_⟩) ?_ ?_
              rotate_left
              ·
               intro w'
               go_simp
               with_reducible rfl
              rotate_left
              ·
               simp only [Act.put, List.setIfInBounds_toArray, List.set_cons_zero, List.set_cons_succ, i64_w, i32_w]
               rfl
              refine pure_ (i := 28) (N := some 40) (v := ?_) (a' := ?_) #[true, true, true, true, true, true, true, true, true, true, true, true, true, true, true, true, true, true, true, true, true, true, true, true, true, true, true, true, true, false, false, false, false, false, false, false] rfl rfl (any_of HT_.out (by kernel_rfl)) (fun _ _ _ h => h) (Or.inl ⟨by rfl, ?_⟩) ?_ ?_
              rotate_left
              ·
               intro w'
               go_simp
               with_reducible rfl
              rotate_left
              ·
               simp only [Act.put, List.setIfInBounds_toArray, List.set_cons_zero, List.set_cons_succ, i64_w, i32_w]
               rfl
              refine pure_ (i := 29) (N := some 41) (v := ?_) (a' := ?_) #[true, true, true, true, true, true, true, true, true, true, true, true, true, true, true, true, true, true, true, true, true, true, true, true, true, true, true, true, true, true, false, false, false, false, false, false] rfl rfl (any_of HT_.out (by kernel_rfl)) (fun _ _ _ h => h) (Or.inl ⟨by rfl, ?_⟩) ?_ ?_
              rotate_left
              ·
               intro w'
               go_simp
               with_reducible rfl
              rotate_left
              ·
               simp only [Act.put, List.setIfInBounds_toArray, List.set_cons_zero, List.set_cons_succ, i64_w, i32_w]
               rfl
              refine take_ (i := 30) (N := some 42) (v := ?_) (a' := ?_) #[true, true, true, true, true, true, true, true, true, true, true, true, true, true, true, true, true, true, true, true, true, true, true, true, true, true, true, true, true, true, true, false, false, false, false, false] rfl rfl (take_ofW HT_.out HW_.out (by kernel_rfl)) (fun _ _ _ h => h) (Or.inl ⟨by rfl, ?_⟩) hHeld ?_ ?_
              rotate_left
              ·
               rintro w' ⟨s0, s1, s2, s3, s4, s5, s6, s7⟩
               go_simp
               with_reducible rfl
              rotate_left
              ·
               simp only [Act.put, List.setIfInBounds_toArray, List.set_cons_zero, List.set_cons_succ, i64_w, i32_w]
               rfl
              refine take_ (i := 31) (N := some 43) (v := ?_) (a' := ?_) #[true, true, true, true, true, true, true, true, true, true, true, true, true, true, true, true, true, true, true, true, true, true, true, true, true, true, true, true, true, true, true, true, false, false, false, false] rfl rfl (take_ofW HT_.out HW_.out (by kernel_rfl)) (fun _ _ _ h => h) (Or.inl ⟨by rfl, ?_⟩) hHeld ?_ ?_
              rotate_left
              ·
               rintro w' ⟨s0, s1, s2, s3, s4, s5, s6, s7⟩
               go_simp
               with_reducible rfl
              rotate_left
              ·
               simp only [Act.put, List.setIfInBounds_toArray, List.set_cons_zero, List.set_cons_succ, i64_w, i32_w]
               rfl
              refine one_ (i := 32) (N := some 44) #[true, true, true, true, true, true, true, true, true, true, true, true, true, true, true, true, true, true, true, true, true, true, true, true, true, true, true, true, true, true, true, true, true, false, false, false] rfl rfl (one_of HT_.out (by kernel_rfl)) (by decide) (fun K hK => ?_)
              refine goes_ Try.func134 (by kernel_rfl) rfl #[.agg #[.int .i64 ((rd_T118 l0 (ji14)).f0), .int .i64 ((rd_T118 l0 (ji14)).f1), .int .i64 ((rd_T118 l0 (ji14)).f2), .int .i64 ((rd_T118 l0 (ji14)).f3)], .agg #[.int .i64 ((rd_T118 l0 x7_1).f0), .int .i64 ((rd_T118 l0 x7_1).f1), .int .i64 ((rd_T118 l0 x7_1).f2), .int .i64 ((rd_T118 l0 x7_1).f3)]] (by rfl) rfl rfl (by (try simp only [List.map_toArray, List.map_cons, List.map_nil]); first | done | (simp only [hji14]; rfl) | rfl | (simp only [List.length_drop, List.length_take]; rfl)) ?_
              with_reducible refine (impl_eventOrder.calls k1 ((rd_T118 l0 (ji14)).f0) ((rd_T118 l0 (ji14)).f1) ((rd_T118 l0 (ji14)).f2) ((rd_T118 l0 (ji14)).f3) ((rd_T118 l0 x7_1).f0) ((rd_T118 l0 x7_1).f1) ((rd_T118 l0 x7_1).f2) ((rd_T118 l0 x7_1).f3) t574 _ A17.out).mono ?_
              rintro e w23 ⟨rfl, hb⟩
              refine ⟨_, rfl, ?_⟩
              have n0_ := Aside0.mk (blk_below (g := gb568) (o := .cells #[.int .i64 ((rd_T118 l0 x7_1).f0), .int .i64 ((rd_T118 l0 x7_1).f1), .int .i64 ((rd_T118 l0 x7_1).f2), .int .i64 ((rd_T118 l0 x7_1).f3)] 118 (0, 0)) (by (with_reducible repeat (first | refine blk_drewN ?_ _ | refine blk_drew ?_ | refine blk_alloc ?_ _)); exact BK568.out) hb)
              have n1_ := Aside0.mk (below_step (by repeat (first | (with_reducible first | exact HB.out | apply below_alloc | apply pw_below_drewN | apply below_drew1 | refine below_set ?_ GE568.out) | exact HB.out)) hb)
              clear BK568
              clear HB
              have BK568 := n0_
              have HB := n1_
              clear n0_ n1_
              (try clear hb)
              (try clear hb2)
              (try clear hk)
              (try clear hi)
              refine hK.out _ _ ⟨(blk_cell BK568.out 0).trans rfl, (blk_cell BK568.out 1).trans rfl, (blk_cell BK568.out 2).trans rfl, (blk_cell BK568.out 3).trans rfl, ((HB.out.cell (World.block_lt_of_cell? w _ hw573_0)).trans hw573_0), ((HB.out.cell (World.block_lt_of_cell? w _ hw573_1)).trans hw573_1), ((HB.out.cell (World.block_lt_of_cell? w _ hw573_2)).trans hw573_2), ((HB.out.cell (World.block_lt_of_cell? w _ hw573_3)).trans hw573_3)⟩ (fun hHeld => ?_)
              clear hK K
              refine norm_ (a' := ?_) ?_ ?_
              rotate_left
              ·
               show Act.put _ (some 44) _ = _
               simp only [Act.put, List.setIfInBounds_toArray, List.set_cons_zero, List.set_cons_succ, i64_w, i32_w]
               rfl
              refine pure_ (i := 33) (N := some 45) (v := ?_) (a' := ?_) #[true, true, true, true, true, true, true, true, true, true, true, true, true, true, true, true, true, true, true, true, true, true, true, true, true, true, true, true, true, true, true, true, true, true, false, false] rfl rfl (any_of HT_.out (by kernel_rfl)) (fun _ _ _ h => h) (Or.inl ⟨by rfl, ?_⟩) ?_ ?_
              rotate_left
              ·
               intro w'
               go_simp
               with_reducible rfl
              rotate_left
              ·
               simp only [Act.put, List.setIfInBounds_toArray, List.set_cons_zero, List.set_cons_succ, i64_w, i32_w]
               rfl
              refine pure_ (i := 34) (N := some 46) (v := ?_) (a' := ?_) #[true, true, true, true, true, true, true, true, true, true, true, true, true, true, true, true, true, true, true, true, true, true, true, true, true, true, true, true, true, true, true, true, true, true, true, false] rfl rfl (any_of HT_.out (by kernel_rfl)) (fun _ _ _ h => h) (Or.inl ⟨by rfl, ?_⟩) ?_ ?_
              rotate_left
              ·
               intro w'
               go_simp
               with_reducible rfl
              rotate_left
              ·
               simp only [Act.put, List.setIfInBounds_toArray, List.set_cons_zero, List.set_cons_succ, i64_w, i32_w]
               rfl
              refine pure_ (i := 35) (N := some 47) (v := ?_) (a' := ?_) #[true, true, true, true, true, true, true, true, true, true, true, true, true, true, true, true, true, true, true, true, true, true, true, true, true, true, true, true, true, true, true, true, true, true, true, true] rfl rfl (any_of HT_.out (by kernel_rfl)) (fun _ _ _ h => h) (Or.inl ⟨by rfl, ?_⟩) ?_ ?_
              rotate_left
              ·
               intro w'
               go_simp
               with_reducible rfl
              rotate_left
              ·
               simp only [Act.put, List.setIfInBounds_toArray, List.set_cons_zero, List.set_cons_succ, i64_w, i32_w]
               rfl
              refine done_ (done_of HT_.out (by kernel_rfl)) ?_
              try go_wp2
              go_ret
              exact ⟨by first | rfl | (simp [errW_none, errW_some] <;> rfl) | (simp only [← hji14]; first | rfl | (simp [errW_none, errW_some] <;> rfl)) | (simp [*, errW_none, errW_some] <;> rfl), by repeat (first | (with_reducible first | exact HB.out | apply below_alloc | apply pw_below_drewN | apply below_drew1 | refine below_set ?_ GE568.out) | exact HB.out)⟩
             ·
              rw [if_neg c18] at H
              have c18b0 : decide (0 ≤ t574) = false := decide_eq_false c18
              clear c18
              have H' := Aside0.mk H
              clear H
              have p567 : 0 ≤ (x7_1 : Int) := of_decide_eq_true (by first | (with_reducible assumption) | assumption)
              have q567 : x7_1 < (l0.length : Int) := of_decide_eq_true (by first | (with_reducible assumption) | assumption)
              obtain ⟨ad567, e567, hx567_0, hx567_1, hx567_2, hx567_3⟩ := at_T118 HR0.out x7_1 p567 q567
              cases e567
              replace hx567_0 := (HB.out.cell (World.block_lt_of_cell? w _ hx567_0)).trans hx567_0
              replace hx567_1 := (HB.out.cell (World.block_lt_of_cell? w _ hx567_1)).trans hx567_1
              replace hx567_2 := (HB.out.cell (World.block_lt_of_cell? w _ hx567_2)).trans hx567_2
              replace hx567_3 := (HB.out.cell (World.block_lt_of_cell? w _ hx567_3)).trans hx567_3
              replace p567 := eq_true p567
              replace q567 := eq_true q567
              try go_wp2_with (first | ((with_reducible refine gate_dst (N := 4) rfl ?_); refine box_event ?hg (N := 4) ?hd (cs := #[.int .i64 0, .int .i64 0, .int .i64 0, .int .i64 0]) (t := 118) ?hr ?_; (case hd => rfl); (case hg => rfl); (case hr => first | (go_simp; done) | (go_simp; rfl)); intro gb568 hg w24 hbox hb; have n0_ := Aside0.mk (below_step (by repeat (first | (with_reducible first | exact HB.out | apply below_alloc | apply pw_below_drewN | apply below_drew1) | exact HB.out)) hb); have n1_ := Aside0.mk (hbox); have n2_ := Aside0.mk ((by rw [hg]; exact (below_size (by repeat (first | (with_reducible first | exact HB.out | apply below_alloc | apply pw_below_drewN | apply below_drew1) | exact HB.out))) : w.heap.size ≤ gb568)); have n3_ := Aside0.mk ((by rw [hg]; exact (below_size (by repeat (first | (with_reducible first | exact HB.out | apply below_alloc | apply pw_below_drewN | apply below_drew1) | exact HB.out))) : w.heap.size ≤ gb568)); clear HB; have HB := n0_; have BK568 := n1_; have GW568 := n2_; have GE568 := n3_; clear n0_ n1_ n2_ n3_; clear hb hbox hg; have hcz25_0 : w24.cell? ⟨gb568, 0, none⟩ = some (.int .i64 0) := (blk_cell BK568.out 0).trans rfl; have hcz25_1 : w24.cell? ⟨gb568, 1, none⟩ = some (.int .i64 0) := (blk_cell BK568.out 1).trans rfl; have hcz25_2 : w24.cell? ⟨gb568, 2, none⟩ = some (.int .i64 0) := (blk_cell BK568.out 2).trans rfl; have hcz25_3 : w24.cell? ⟨gb568, 3, none⟩ = some (.int .i64 0) := (blk_cell BK568.out 3).trans rfl; have hfz25_0 := blk_frozen BK568.out 0; have hfz25_1 := blk_frozen BK568.out 1; have hfz25_2 := blk_frozen BK568.out 2; have hfz25_3 := blk_frozen BK568.out 3))
              have n0_ : Aside0 (((((w24.setCell ⟨gb568, 0, none⟩ (.int .i64 ((rd_T118 l0 x7_1).f0))).setCell ⟨gb568, 1, none⟩ (.int .i64 ((rd_T118 l0 x7_1).f1))).setCell ⟨gb568, 2, none⟩ (.int .i64 ((rd_T118 l0 x7_1).f2))).setCell ⟨gb568, 3, none⟩ (.int .i64 ((rd_T118 l0 x7_1).f3))).heap[gb568]? = some (.cells #[.int .i64 ((rd_T118 l0 x7_1).f0), .int .i64 ((rd_T118 l0 x7_1).f1), .int .i64 ((rd_T118 l0 x7_1).f2), .int .i64 ((rd_T118 l0 x7_1).f3)] 118 (0, 0))) := ⟨by (with_reducible repeat (first | refine blk_drewN ?_ _ | refine blk_drew ?_ | refine blk_alloc ?_ _)); refine blk_put (cs := #[.int .i64 ((rd_T118 l0 x7_1).f0), .int .i64 ((rd_T118 l0 x7_1).f1), .int .i64 ((rd_T118 l0 x7_1).f2), .int .i64 0]) ?_ 3 _ rfl; (with_reducible repeat (first | refine blk_drewN ?_ _ | refine blk_drew ?_ | refine blk_alloc ?_ _)); refine blk_put (cs := #[.int .i64 ((rd_T118 l0 x7_1).f0), .int .i64 ((rd_T118 l0 x7_1).f1), .int .i64 0, .int .i64 0]) ?_ 2 _ rfl; (with_reducible repeat (first | refine blk_drewN ?_ _ | refine blk_drew ?_ | refine blk_alloc ?_ _)); refine blk_put (cs := #[.int .i64 ((rd_T118 l0 x7_1).f0), .int .i64 0, .int .i64 0, .int .i64 0]) ?_ 1 _ rfl; (with_reducible repeat (first | refine blk_drewN ?_ _ | refine blk_drew ?_ | refine blk_alloc ?_ _)); refine blk_put (cs := #[.int .i64 0, .int .i64 0, .int .i64 0, .int .i64 0]) ?_ 0 _ rfl; (with_reducible repeat (first | refine blk_drewN ?_ _ | refine blk_drew ?_ | refine blk_alloc ?_ _)); exact BK568.out⟩
              have n1_ : Aside0 (Below w.heap.size w ((((w24.setCell ⟨gb568, 0, none⟩ (.int .i64 ((rd_T118 l0 x7_1).f0))).setCell ⟨gb568, 1, none⟩ (.int .i64 ((rd_T118 l0 x7_1).f1))).setCell ⟨gb568, 2, none⟩ (.int .i64 ((rd_T118 l0 x7_1).f2))).setCell ⟨gb568, 3, none⟩ (.int .i64 ((rd_T118 l0 x7_1).f3)))) := ⟨by repeat (first | (with_reducible first | exact HB.out | apply below_alloc | apply pw_below_drewN | apply below_drew1 | refine below_set ?_ GE568.out) | exact HB.out)⟩
              (try clear BK568)
              (try clear HB)
              generalize ((((w24.setCell ⟨gb568, 0, none⟩ (.int .i64 ((rd_T118 l0 x7_1).f0))).setCell ⟨gb568, 1, none⟩ (.int .i64 ((rd_T118 l0 x7_1).f1))).setCell ⟨gb568, 2, none⟩ (.int .i64 ((rd_T118 l0 x7_1).f2))).setCell ⟨gb568, 3, none⟩ (.int .i64 ((rd_T118 l0 x7_1).f3))) = w26 at n0_ n1_ ⊢
              have BK568 := n0_
              have HB := n1_
              clear n0_ n1_
              have n0_ := Aside0.mk (blk_drew BK568.out)
              have n1_ := Aside0.mk (below_drew1 HB.out)
              clear BK568
              clear HB
              have BK568 := n0_
              have HB := n1_
              clear n0_ n1_
              have p573 : 0 ≤ ((ji14) : Int) := of_decide_eq_true (by first | (with_reducible assumption) | assumption)
              have q573 : (ji14) < (l0.length : Int) := of_decide_eq_true (by first | (with_reducible assumption) | assumption)
              obtain ⟨ad573, e573, hx573_0, hx573_1, hx573_2, hx573_3⟩ := at_T118 HR0.out (ji14) p573 q573
              have hw573_3 := hx573_3
              have hw573_2 := hx573_2
              have hw573_1 := hx573_1
              have hw573_0 := hx573_0
              obtain rfl : ad567 = ad573 := (by injection e573)
              replace hx573_0 := (HB.out.cell (World.block_lt_of_cell? w _ hx573_0)).trans hx573_0
              replace hx573_1 := (HB.out.cell (World.block_lt_of_cell? w _ hx573_1)).trans hx573_1
              replace hx573_2 := (HB.out.cell (World.block_lt_of_cell? w _ hx573_2)).trans hx573_2
              replace hx573_3 := (HB.out.cell (World.block_lt_of_cell? w _ hx573_3)).trans hx573_3
              replace p573 := eq_true p573
              replace q573 := eq_true q573
              refine start_ (n := 36) (S := fun w' => w'.cell? ⟨gb568, 0, none⟩ = some (.int .i64 ((rd_T118 l0 x7_1).f0)) ∧ w'.cell? ⟨gb568, 1, none⟩ = some (.int .i64 ((rd_T118 l0 x7_1).f1)) ∧ w'.cell? ⟨gb568, 2, none⟩ = some (.int .i64 ((rd_T118 l0 x7_1).f2)) ∧ w'.cell? ⟨gb568, 3, none⟩ = some (.int .i64 ((rd_T118 l0 x7_1).f3)) ∧ w'.cell? (ad567.add (((ji14)).toNat * 4)) = some (.int .i64 ((rd_T118 l0 (ji14)).f0)) ∧ w'.cell? ⟨(ad567.add (((ji14)).toNat * 4)).block, (ad567.add (((ji14)).toNat * 4)).off + 1, none⟩ = some (.int .i64 ((rd_T118 l0 (ji14)).f1)) ∧ w'.cell? ⟨(ad567.add (((ji14)).toNat * 4)).block, (ad567.add (((ji14)).toNat * 4)).off + 2, none⟩ = some (.int .i64 ((rd_T118 l0 (ji14)).f2)) ∧ w'.cell? ⟨(ad567.add (((ji14)).toNat * 4)).block, (ad567.add (((ji14)).toNat * 4)).off + 3, none⟩ = some (.int .i64 ((rd_T118 l0 (ji14)).f3))) (ds := []) #[false, false, false, false, false, false, false, false, false, false, false, false, false, false, false, false, false, false, false, false, false, false, false, false, false, false, false, false, false, false, false, false, false, false, false, false] (by kernel_rfl) rfl rfl ⟨(blk_cell BK568.out 0).trans rfl, (blk_cell BK568.out 1).trans rfl, (blk_cell BK568.out 2).trans rfl, (blk_cell BK568.out 3).trans rfl, ((HB.out.cell (World.block_lt_of_cell? w _ hw573_0)).trans hw573_0), ((HB.out.cell (World.block_lt_of_cell? w _ hw573_1)).trans hw573_1), ((HB.out.cell (World.block_lt_of_cell? w _ hw573_2)).trans hw573_2), ((HB.out.cell (World.block_lt_of_cell? w _ hw573_3)).trans hw573_3)⟩ (fun hHeld => ?_); refine with_tabW impl_IsScore.tab4 impl_IsScore.bits4 (fun HT_ HW_ => ?_)
              generalize w26.drew = w27 at BK568 HB hx573_0 hx573_1 hx573_2 hx573_3 hHeld ⊢
              refine pure_ (i := 0) (N := some 12) (v := ?_) (a' := ?_) #[true, false, false, false, false, false, false, false, false, false, false, false, false, false, false, false, false, false, false, false, false, false, false, false, false, false, false, false, false, false, false, false, false, false, false, false] rfl rfl (any_of HT_.out (by kernel_rfl)) (fun _ _ _ h => h) (Or.inl ⟨by rfl, ?_⟩) ?_ ?_
              rotate_left
              ·
               intro w'
               go_simp
               with_reducible rfl
              rotate_left
              ·
               simp only [Act.put, List.setIfInBounds_toArray, List.set_cons_zero, List.set_cons_succ, i64_w, i32_w]
               rfl
              refine take_ (i := 1) (N := some 13) (v := ?_) (a' := ?_) #[true, true, false, false, false, false, false, false, false, false, false, false, false, false, false, false, false, false, false, false, false, false, false, false, false, false, false, false, false, false, false, false, false, false, false, false] rfl rfl (take_ofW HT_.out HW_.out (by kernel_rfl)) (fun _ _ _ h => h) (Or.inl ⟨by rfl, ?_⟩) hHeld ?_ ?_
              rotate_left
              ·
               rintro w' ⟨s0, s1, s2, s3, s4, s5, s6, s7⟩
               go_simp
               with_reducible rfl
              rotate_left
              ·
               simp only [Act.put, List.setIfInBounds_toArray, List.set_cons_zero, List.set_cons_succ, i64_w, i32_w]
               rfl
              refine one_ (i := 2) (N := some 14) #[true, true, true, false, false, false, false, false, false, false, false, false, false, false, false, false, false, false, false, false, false, false, false, false, false, false, false, false, false, false, false, false, false, false, false, false] rfl rfl (one_of HT_.out (by kernel_rfl)) (by decide) (fun K hK => ?_)
              refine goes_ Try.func82 (by kernel_rfl) rfl #[.int .i64 ((rd_T118 l0 x7_1).f0), .int .i64 0, .int .i64 2000] (by rfl) rfl rfl (by (try simp only [List.map_toArray, List.map_cons, List.map_nil]); first | done | rfl | (simp only [List.length_drop, List.length_take]; rfl)) ?_
              with_reducible refine (impl_InRange.calls ((rd_T118 l0 x7_1).f0) 0 2000 true _ A5.out).mono ?_
              rintro e w' ⟨rfl, ⟨nd, rfl⟩⟩
              refine ⟨_, rfl, ?_⟩
              refine hK.out _ _ ⟨(blk_cell BK568.out 0).trans rfl, (blk_cell BK568.out 1).trans rfl, (blk_cell BK568.out 2).trans rfl, (blk_cell BK568.out 3).trans rfl, ((HB.out.cell (World.block_lt_of_cell? w _ hw573_0)).trans hw573_0), ((HB.out.cell (World.block_lt_of_cell? w _ hw573_1)).trans hw573_1), ((HB.out.cell (World.block_lt_of_cell? w _ hw573_2)).trans hw573_2), ((HB.out.cell (World.block_lt_of_cell? w _ hw573_3)).trans hw573_3)⟩ (fun hHeld => ?_)
              clear hK K
              refine norm_ (a' := ?_) ?_ ?_
              rotate_left
              ·
               show Act.put _ (some 14) _ = _
               simp only [Act.put, List.setIfInBounds_toArray, List.set_cons_zero, List.set_cons_succ, i64_w, i32_w]
               rfl
              refine pure_ (i := 3) (N := some 15) (v := ?_) (a' := ?_) #[true, true, true, true, false, false, false, false, false, false, false, false, false, false, false, false, false, false, false, false, false, false, false, false, false, false, false, false, false, false, false, false, false, false, false, false] rfl rfl (any_of HT_.out (by kernel_rfl)) (fun _ _ _ h => h) (Or.inl ⟨by rfl, ?_⟩) ?_ ?_
              rotate_left
              ·
               intro w'
               go_simp
               with_reducible rfl
              rotate_left
              ·
               simp only [Act.put, List.setIfInBounds_toArray, List.set_cons_zero, List.set_cons_succ, i64_w, i32_w]
               rfl
              refine pure_ (i := 4) (N := some 16) (v := ?_) (a' := ?_) #[true, true, true, true, true, false, false, false, false, false, false, false, false, false, false, false, false, false, false, false, false, false, false, false, false, false, false, false, false, false, false, false, false, false, false, false] rfl rfl (any_of HT_.out (by kernel_rfl)) (fun _ _ _ h => h) (Or.inl ⟨by rfl, ?_⟩) ?_ ?_
              rotate_left
              ·
               intro w'
               go_simp
               with_reducible rfl
              rotate_left
              ·
               simp only [Act.put, List.setIfInBounds_toArray, List.set_cons_zero, List.set_cons_succ, i64_w, i32_w]
               rfl
              refine pure_ (i := 5) (N := some 17) (v := ?_) (a' := ?_) #[true, true, true, true, true, true, false, false, false, false, false, false, false, false, false, false, false, false, false, false, false, false, false, false, false, false, false, false, false, false, false, false, false, false, false, false] rfl rfl (any_of HT_.out (by kernel_rfl)) (fun _ _ _ h => h) (Or.inl ⟨by rfl, ?_⟩) ?_ ?_
              rotate_left
              ·
               intro w'
               go_simp
               with_reducible rfl
              rotate_left
              ·
               simp only [Act.put, List.setIfInBounds_toArray, List.set_cons_zero, List.set_cons_succ, i64_w, i32_w]
               rfl
              refine take_ (i := 6) (N := some 18) (v := ?_) (a' := ?_) #[true, true, true, true, true, true, true, false, false, false, false, false, false, false, false, false, false, false, false, false, false, false, false, false, false, false, false, false, false, false, false, false, false, false, false, false] rfl rfl (take_ofW HT_.out HW_.out (by kernel_rfl)) (fun _ _ _ h => h) (Or.inl ⟨by rfl, ?_⟩) hHeld ?_ ?_
              rotate_left
              ·
               rintro w' ⟨s0, s1, s2, s3, s4, s5, s6, s7⟩
               go_simp
               with_reducible rfl
              rotate_left
              ·
               simp only [Act.put, List.setIfInBounds_toArray, List.set_cons_zero, List.set_cons_succ, i64_w, i32_w]
               rfl
              refine one_ (i := 7) (N := some 19) #[true, true, true, true, true, true, true, true, false, false, false, false, false, false, false, false, false, false, false, false, false, false, false, false, false, false, false, false, false, false, false, false, false, false, false, false] rfl rfl (one_of HT_.out (by kernel_rfl)) (by decide) (fun K hK => ?_)
              refine goes_ Try.func82 (by kernel_rfl) rfl #[.int .i64 ((rd_T118 l0 x7_1).f1), .int .i64 1, .int .i64 96] (by rfl) rfl rfl (by (try simp only [List.map_toArray, List.map_cons, List.map_nil]); first | done | rfl | (simp only [List.length_drop, List.length_take]; rfl)) ?_
              with_reducible refine (impl_InRange.calls ((rd_T118 l0 x7_1).f1) 1 96 true _ A7.out).mono ?_
              rintro e w' ⟨rfl, ⟨nd, rfl⟩⟩
              refine ⟨_, rfl, ?_⟩
              refine hK.out _ _ ⟨(blk_cell BK568.out 0).trans rfl, (blk_cell BK568.out 1).trans rfl, (blk_cell BK568.out 2).trans rfl, (blk_cell BK568.out 3).trans rfl, ((HB.out.cell (World.block_lt_of_cell? w _ hw573_0)).trans hw573_0), ((HB.out.cell (World.block_lt_of_cell? w _ hw573_1)).trans hw573_1), ((HB.out.cell (World.block_lt_of_cell? w _ hw573_2)).trans hw573_2), ((HB.out.cell (World.block_lt_of_cell? w _ hw573_3)).trans hw573_3)⟩ (fun hHeld => ?_)
              clear hK K
              refine norm_ (a' := ?_) ?_ ?_
              rotate_left
              ·
               show Act.put _ (some 19) _ = _
               simp only [Act.put, List.setIfInBounds_toArray, List.set_cons_zero, List.set_cons_succ, i64_w, i32_w]
               rfl
              refine pure_ (i := 8) (N := some 20) (v := ?_) (a' := ?_) #[true, true, true, true, true, true, true, true, true, false, false, false, false, false, false, false, false, false, false, false, false, false, false, false, false, false, false, false, false, false, false, false, false, false, false, false] rfl rfl (any_of HT_.out (by kernel_rfl)) (fun _ _ _ h => h) (Or.inl ⟨by rfl, ?_⟩) ?_ ?_
              rotate_left
              ·
               intro w'
               go_simp
               with_reducible rfl
              rotate_left
              ·
               simp only [Act.put, List.setIfInBounds_toArray, List.set_cons_zero, List.set_cons_succ, i64_w, i32_w]
               rfl
              refine pure_ (i := 9) (N := some 21) (v := ?_) (a' := ?_) #[true, true, true, true, true, true, true, true, true, true, false, false, false, false, false, false, false, false, false, false, false, false, false, false, false, false, false, false, false, false, false, false, false, false, false, false] rfl rfl (any_of HT_.out (by kernel_rfl)) (fun _ _ _ h => h) (Or.inl ⟨by rfl, ?_⟩) ?_ ?_
              rotate_left
              ·
               intro w'
               go_simp
               with_reducible rfl
              rotate_left
              ·
               simp only [Act.put, List.setIfInBounds_toArray, List.set_cons_zero, List.set_cons_succ, i64_w, i32_w]
               rfl
              refine pure_ (i := 10) (N := some 22) (v := ?_) (a' := ?_) #[true, true, true, true, true, true, true, true, true, true, true, false, false, false, false, false, false, false, false, false, false, false, false, false, false, false, false, false, false, false, false, false, false, false, false, false] rfl rfl (any_of HT_.out (by kernel_rfl)) (fun _ _ _ h => h) (Or.inl ⟨by rfl, ?_⟩) ?_ ?_
              rotate_left
              ·
               intro w'
               go_simp
               with_reducible rfl
              rotate_left
              ·
               simp only [Act.put, List.setIfInBounds_toArray, List.set_cons_zero, List.set_cons_succ, i64_w, i32_w]
               rfl
              refine pure_ (i := 11) (N := some 23) (v := ?_) (a' := ?_) #[true, true, true, true, true, true, true, true, true, true, true, true, false, false, false, false, false, false, false, false, false, false, false, false, false, false, false, false, false, false, false, false, false, false, false, false] rfl rfl (any_of HT_.out (by kernel_rfl)) (fun _ _ _ h => h) (Or.inl ⟨by rfl, ?_⟩) ?_ ?_
              rotate_left
              ·
               intro w'
               go_simp
               with_reducible rfl
              rotate_left
              ·
               simp only [Act.put, List.setIfInBounds_toArray, List.set_cons_zero, List.set_cons_succ, i64_w, i32_w]
               rfl
              refine take_ (i := 12) (N := some 24) (v := ?_) (a' := ?_) #[true, true, true, true, true, true, true, true, true, true, true, true, true, false, false, false, false, false, false, false, false, false, false, false, false, false, false, false, false, false, false, false, false, false, false, false] rfl rfl (take_ofW HT_.out HW_.out (by kernel_rfl)) (fun _ _ _ h => h) (Or.inl ⟨by rfl, ?_⟩) hHeld ?_ ?_
              rotate_left
              ·
               rintro w' ⟨s0, s1, s2, s3, s4, s5, s6, s7⟩
               go_simp
               with_reducible rfl
              rotate_left
              ·
               simp only [Act.put, List.setIfInBounds_toArray, List.set_cons_zero, List.set_cons_succ, i64_w, i32_w]
               rfl
              refine one_ (i := 13) (N := some 25) #[true, true, true, true, true, true, true, true, true, true, true, true, true, true, false, false, false, false, false, false, false, false, false, false, false, false, false, false, false, false, false, false, false, false, false, false] rfl rfl (one_of HT_.out (by kernel_rfl)) (by decide) (fun K hK => ?_)
              refine goes_ Try.func82 (by kernel_rfl) rfl #[.int .i64 ((rd_T118 l0 x7_1).f2), .int .i64 21, .int .i64 108] (by rfl) rfl rfl (by (try simp only [List.map_toArray, List.map_cons, List.map_nil]); first | done | rfl | (simp only [List.length_drop, List.length_take]; rfl)) ?_
              with_reducible refine (impl_InRange.calls ((rd_T118 l0 x7_1).f2) 21 108 true _ A9.out).mono ?_
              rintro e w' ⟨rfl, ⟨nd, rfl⟩⟩
              refine ⟨_, rfl, ?_⟩
              refine hK.out _ _ ⟨(blk_cell BK568.out 0).trans rfl, (blk_cell BK568.out 1).trans rfl, (blk_cell BK568.out 2).trans rfl, (blk_cell BK568.out 3).trans rfl, ((HB.out.cell (World.block_lt_of_cell? w _ hw573_0)).trans hw573_0), ((HB.out.cell (World.block_lt_of_cell? w _ hw573_1)).trans hw573_1), ((HB.out.cell (World.block_lt_of_cell? w _ hw573_2)).trans hw573_2), ((HB.out.cell (World.block_lt_of_cell? w _ hw573_3)).trans hw573_3)⟩ (fun hHeld => ?_)
              clear hK K
              refine norm_ (a' := ?_) ?_ ?_
              rotate_left
              ·
               show Act.put _ (some 25) _ = _
               simp only [Act.put, List.setIfInBounds_toArray, List.set_cons_zero, List.set_cons_succ, i64_w, i32_w]
               rfl
              refine pure_ (i := 14) (N := some 26) (v := ?_) (a' := ?_) #[true, true, true, true, true, true, true, true, true, true, true, true, true, true, true, false, false, false, false, false, false, false, false, false, false, false, false, false, false, false, false, false, false, false, false, false] rfl rfl (any_of HT_.out (by kernel_rfl)) (fun _ _ _ h => h) (Or.inl ⟨by rfl, ?_⟩) ?_ ?_
              rotate_left
              ·
               intro w'
               go_simp
               with_reducible rfl
              rotate_left
              ·
               simp only [Act.put, List.setIfInBounds_toArray, List.set_cons_zero, List.set_cons_succ, i64_w, i32_w]
               rfl
              refine pure_ (i := 15) (N := some 27) (v := ?_) (a' := ?_) #[true, true, true, true, true, true, true, true, true, true, true, true, true, true, true, true, false, false, false, false, false, false, false, false, false, false, false, false, false, false, false, false, false, false, false, false] rfl rfl (any_of HT_.out (by kernel_rfl)) (fun _ _ _ h => h) (Or.inl ⟨by rfl, ?_⟩) ?_ ?_
              rotate_left
              ·
               intro w'
               go_simp
               with_reducible rfl
              rotate_left
              ·
               simp only [Act.put, List.setIfInBounds_toArray, List.set_cons_zero, List.set_cons_succ, i64_w, i32_w]
               rfl
              refine pure_ (i := 16) (N := some 28) (v := ?_) (a' := ?_) #[true, true, true, true, true, true, true, true, true, true, true, true, true, true, true, true, true, false, false, false, false, false, false, false, false, false, false, false, false, false, false, false, false, false, false, false] rfl rfl (any_of HT_.out (by kernel_rfl)) (fun _ _ _ h => h) (Or.inl ⟨by rfl, ?_⟩) ?_ ?_
              rotate_left
              ·
               intro w'
               go_simp
               with_reducible rfl
              rotate_left
              ·
               simp only [Act.put, List.setIfInBounds_toArray, List.set_cons_zero, List.set_cons_succ, i64_w, i32_w]
               rfl
              refine pure_ (i := 17) (N := some 29) (v := ?_) (a' := ?_) #[true, true, true, true, true, true, true, true, true, true, true, true, true, true, true, true, true, true, false, false, false, false, false, false, false, false, false, false, false, false, false, false, false, false, false, false] rfl rfl (any_of HT_.out (by kernel_rfl)) (fun _ _ _ h => h) (Or.inl ⟨by rfl, ?_⟩) ?_ ?_
              rotate_left
              ·
               intro w'
               go_simp
               with_reducible rfl
              rotate_left
              ·
               simp only [Act.put, List.setIfInBounds_toArray, List.set_cons_zero, List.set_cons_succ, i64_w, i32_w]
               rfl
              refine take_ (i := 18) (N := some 30) (v := ?_) (a' := ?_) #[true, true, true, true, true, true, true, true, true, true, true, true, true, true, true, true, true, true, true, false, false, false, false, false, false, false, false, false, false, false, false, false, false, false, false, false] rfl rfl (take_ofW HT_.out HW_.out (by kernel_rfl)) (fun _ _ _ h => h) (Or.inl ⟨by rfl, ?_⟩) hHeld ?_ ?_
              rotate_left
              ·
               rintro w' ⟨s0, s1, s2, s3, s4, s5, s6, s7⟩
               go_simp
               with_reducible rfl
              rotate_left
              ·
               simp only [Act.put, List.setIfInBounds_toArray, List.set_cons_zero, List.set_cons_succ, i64_w, i32_w]
               rfl
              refine one_ (i := 19) (N := some 31) #[true, true, true, true, true, true, true, true, true, true, true, true, true, true, true, true, true, true, true, true, false, false, false, false, false, false, false, false, false, false, false, false, false, false, false, false] rfl rfl (one_of HT_.out (by kernel_rfl)) (by decide) (fun K hK => ?_)
              refine goes_ Try.func82 (by kernel_rfl) rfl #[.int .i64 ((rd_T118 l0 x7_1).f3), .int .i64 1, .int .i64 4] (by rfl) rfl rfl (by (try simp only [List.map_toArray, List.map_cons, List.map_nil]); first | done | rfl | (simp only [List.length_drop, List.length_take]; rfl)) ?_
              with_reducible refine (impl_InRange.calls ((rd_T118 l0 x7_1).f3) 1 4 true _ A11.out).mono ?_
              rintro e w' ⟨rfl, ⟨nd, rfl⟩⟩
              refine ⟨_, rfl, ?_⟩
              refine hK.out _ _ ⟨(blk_cell BK568.out 0).trans rfl, (blk_cell BK568.out 1).trans rfl, (blk_cell BK568.out 2).trans rfl, (blk_cell BK568.out 3).trans rfl, ((HB.out.cell (World.block_lt_of_cell? w _ hw573_0)).trans hw573_0), ((HB.out.cell (World.block_lt_of_cell? w _ hw573_1)).trans hw573_1), ((HB.out.cell (World.block_lt_of_cell? w _ hw573_2)).trans hw573_2), ((HB.out.cell (World.block_lt_of_cell? w _ hw573_3)).trans hw573_3)⟩ (fun hHeld => ?_)
              clear hK K
              refine norm_ (a' := ?_) ?_ ?_
              rotate_left
              ·
               show Act.put _ (some 31) _ = _
               simp only [Act.put, List.setIfInBounds_toArray, List.set_cons_zero, List.set_cons_succ, i64_w, i32_w]
               rfl
              refine pure_ (i := 20) (N := some 32) (v := ?_) (a' := ?_) #[true, true, true, true, true, true, true, true, true, true, true, true, true, true, true, true, true, true, true, true, true, false, false, false, false, false, false, false, false, false, false, false, false, false, false, false] rfl rfl (any_of HT_.out (by kernel_rfl)) (fun _ _ _ h => h) (Or.inl ⟨by rfl, ?_⟩) ?_ ?_
              rotate_left
              ·
               intro w'
               go_simp
               with_reducible rfl
              rotate_left
              ·
               simp only [Act.put, List.setIfInBounds_toArray, List.set_cons_zero, List.set_cons_succ, i64_w, i32_w]
               rfl
              refine pure_ (i := 21) (N := some 33) (v := ?_) (a' := ?_) #[true, true, true, true, true, true, true, true, true, true, true, true, true, true, true, true, true, true, true, true, true, true, false, false, false, false, false, false, false, false, false, false, false, false, false, false] rfl rfl (any_of HT_.out (by kernel_rfl)) (fun _ _ _ h => h) (Or.inl ⟨by rfl, ?_⟩) ?_ ?_
              rotate_left
              ·
               intro w'
               go_simp
               with_reducible rfl
              rotate_left
              ·
               simp only [Act.put, List.setIfInBounds_toArray, List.set_cons_zero, List.set_cons_succ, i64_w, i32_w]
               rfl
              refine pure_ (i := 22) (N := some 34) (v := ?_) (a' := ?_) #[true, true, true, true, true, true, true, true, true, true, true, true, true, true, true, true, true, true, true, true, true, true, true, false, false, false, false, false, false, false, false, false, false, false, false, false] rfl rfl (any_of HT_.out (by kernel_rfl)) (fun _ _ _ h => h) (Or.inl ⟨by rfl, ?_⟩) ?_ ?_
              rotate_left
              ·
               intro w'
               go_simp
               with_reducible rfl
              rotate_left
              ·
               simp only [Act.put, List.setIfInBounds_toArray, List.set_cons_zero, List.set_cons_succ, i64_w, i32_w]
               rfl
              refine pure_ (i := 23) (N := some 35) (v := ?_) (a' := ?_) #[true, true, true, true, true, true, true, true, true, true, true, true, true, true, true, true, true, true, true, true, true, true, true, true, false, false, false, false, false, false, false, false, false, false, false, false] rfl rfl (any_of HT_.out (by kernel_rfl)) (fun _ _ _ h => h) (Or.inl ⟨by rfl, ?_⟩) ?_ ?_
              rotate_left
              ·
               intro w'
               go_simp
               with_reducible rfl
              rotate_left
              ·
               simp only [Act.put, List.setIfInBounds_toArray, List.set_cons_zero, List.set_cons_succ, i64_w, i32_w]
               rfl
              refine pure_ (i := 24) (N := some 36) (v := ?_) (a' := ?_) #[true, true, true, true, true, true, true, true, true, true, true, true, true, true, true, true, true, true, true, true, true, true, true, true, true, false, false, false, false, false, false, false, false, false, false, false] rfl rfl (any_of HT_.out (by kernel_rfl)) (fun _ _ _ h => h) (Or.inl ⟨by rfl, ?_⟩) ?_ ?_
              rotate_left
              ·
               intro w'
               go_simp
               with_reducible rfl
              rotate_left
              ·
               simp only [Act.put, List.setIfInBounds_toArray, List.set_cons_zero, List.set_cons_succ, i64_w, i32_w]
               rfl
              refine pure_ (i := 25) (N := some 37) (v := ?_) (a' := ?_) #[true, true, true, true, true, true, true, true, true, true, true, true, true, true, true, true, true, true, true, true, true, true, true, true, true, true, false, false, false, false, false, false, false, false, false, false] rfl rfl (any_of HT_.out (by kernel_rfl)) (fun _ _ _ h => h) (Or.inl ⟨by rfl, ?_⟩) ?_ ?_
              rotate_left
              ·
               intro w'
               go_simp
               with_reducible rfl
              rotate_left
              ·
               simp only [Act.put, List.setIfInBounds_toArray, List.set_cons_zero, List.set_cons_succ, i64_w, i32_w]
               rfl
              refine pure_ (i := 26) (N := some 38) (v := ?_) (a' := ?_) #[true, true, true, true, true, true, true, true, true, true, true, true, true, true, true, true, true, true, true, true, true, true, true, true, true, true, true, false, false, false, false, false, false, false, false, false] rfl rfl (any_of HT_.out (by kernel_rfl)) (fun _ _ _ h => h) (Or.inl ⟨by rfl, ?_⟩) ?_ ?_
              rotate_left
              ·
               intro w'
               go_simp
               with_reducible rfl
              rotate_left
              ·
               simp only [Act.put, List.setIfInBounds_toArray, List.set_cons_zero, List.set_cons_succ, i64_w, i32_w]
               rfl
              refine pure_ (i := 27) (N := some 39) (v := ?_) (a' := ?_) #[true, true, true, true, true, true, true, true, true, true, true, true, true, true, true, true, true, true, true, true, true, true, true, true, true, true, true, true, false, false, false, false, false, false, false, false] rfl rfl (any_of HT_.out (by kernel_rfl)) (fun _ _ _ h => h) (Or.inl ⟨by rfl, ?_⟩) ?_ ?_
              rotate_left
              ·
               intro w'
               go_simp
               with_reducible rfl
              rotate_left
              ·
               simp only [Act.put, List.setIfInBounds_toArray, List.set_cons_zero, List.set_cons_succ, i64_w, i32_w]
               rfl
              refine pure_ (i := 28) (N := some 40) (v := ?_) (a' := ?_) #[true, true, true, true, true, true, true, true, true, true, true, true, true, true, true, true, true, true, true, true, true, true, true, true, true, true, true, true, true, false, false, false, false, false, false, false] rfl rfl (any_of HT_.out (by kernel_rfl)) (fun _ _ _ h => h) (Or.inl ⟨by rfl, ?_⟩) ?_ ?_
              rotate_left
              ·
               intro w'
               go_simp
               with_reducible rfl
              rotate_left
              ·
               simp only [Act.put, List.setIfInBounds_toArray, List.set_cons_zero, List.set_cons_succ, i64_w, i32_w]
               rfl
              refine pure_ (i := 29) (N := some 41) (v := ?_) (a' := ?_) #[true, true, true, true, true, true, true, true, true, true, true, true, true, true, true, true, true, true, true, true, true, true, true, true, true, true, true, true, true, true, false, false, false, false, false, false] rfl rfl (any_of HT_.out (by kernel_rfl)) (fun _ _ _ h => h) (Or.inl ⟨by rfl, ?_⟩) ?_ ?_
              rotate_left
              ·
               intro w'
               go_simp
               with_reducible rfl
              rotate_left
              ·
               simp only [Act.put, List.setIfInBounds_toArray, List.set_cons_zero, List.set_cons_succ, i64_w, i32_w]
               rfl
              refine take_ (i := 30) (N := some 42) (v := ?_) (a' := ?_) #[true, true, true, true, true, true, true, true, true, true, true, true, true, true, true, true, true, true, true, true, true, true, true, true, true, true, true, true, true, true, true, false, false, false, false, false] rfl rfl (take_ofW HT_.out HW_.out (by kernel_rfl)) (fun _ _ _ h => h) (Or.inl ⟨by rfl, ?_⟩) hHeld ?_ ?_
              rotate_left
              ·
               rintro w' ⟨s0, s1, s2, s3, s4, s5, s6, s7⟩
               go_simp
               with_reducible rfl
              rotate_left
              ·
               simp only [Act.put, List.setIfInBounds_toArray, List.set_cons_zero, List.set_cons_succ, i64_w, i32_w]
               rfl
              refine take_ (i := 31) (N := some 43) (v := ?_) (a' := ?_) #[true, true, true, true, true, true, true, true, true, true, true, true, true, true, true, true, true, true, true, true, true, true, true, true, true, true, true, true, true, true, true, true, false, false, false, false] rfl rfl (take_ofW HT_.out HW_.out (by kernel_rfl)) (fun _ _ _ h => h) (Or.inl ⟨by rfl, ?_⟩) hHeld ?_ ?_
              rotate_left
              ·
               rintro w' ⟨s0, s1, s2, s3, s4, s5, s6, s7⟩
               go_simp
               with_reducible rfl
              rotate_left
              ·
               simp only [Act.put, List.setIfInBounds_toArray, List.set_cons_zero, List.set_cons_succ, i64_w, i32_w]
               rfl
              refine one_ (i := 32) (N := some 44) #[true, true, true, true, true, true, true, true, true, true, true, true, true, true, true, true, true, true, true, true, true, true, true, true, true, true, true, true, true, true, true, true, true, false, false, false] rfl rfl (one_of HT_.out (by kernel_rfl)) (by decide) (fun K hK => ?_)
              refine goes_ Try.func134 (by kernel_rfl) rfl #[.agg #[.int .i64 ((rd_T118 l0 (ji14)).f0), .int .i64 ((rd_T118 l0 (ji14)).f1), .int .i64 ((rd_T118 l0 (ji14)).f2), .int .i64 ((rd_T118 l0 (ji14)).f3)], .agg #[.int .i64 ((rd_T118 l0 x7_1).f0), .int .i64 ((rd_T118 l0 x7_1).f1), .int .i64 ((rd_T118 l0 x7_1).f2), .int .i64 ((rd_T118 l0 x7_1).f3)]] (by rfl) rfl rfl (by (try simp only [List.map_toArray, List.map_cons, List.map_nil]); first | done | (simp only [hji14]; rfl) | rfl | (simp only [List.length_drop, List.length_take]; rfl)) ?_
              with_reducible refine (impl_eventOrder.calls k1 ((rd_T118 l0 (ji14)).f0) ((rd_T118 l0 (ji14)).f1) ((rd_T118 l0 (ji14)).f2) ((rd_T118 l0 (ji14)).f3) ((rd_T118 l0 x7_1).f0) ((rd_T118 l0 x7_1).f1) ((rd_T118 l0 x7_1).f2) ((rd_T118 l0 x7_1).f3) t574 _ A17.out).mono ?_
              rintro e w28 ⟨rfl, hb⟩
              refine ⟨_, rfl, ?_⟩
              have n0_ := Aside0.mk (blk_below (g := gb568) (o := .cells #[.int .i64 ((rd_T118 l0 x7_1).f0), .int .i64 ((rd_T118 l0 x7_1).f1), .int .i64 ((rd_T118 l0 x7_1).f2), .int .i64 ((rd_T118 l0 x7_1).f3)] 118 (0, 0)) (by (with_reducible repeat (first | refine blk_drewN ?_ _ | refine blk_drew ?_ | refine blk_alloc ?_ _)); exact BK568.out) hb)
              have n1_ := Aside0.mk (below_step (by repeat (first | (with_reducible first | exact HB.out | apply below_alloc | apply pw_below_drewN | apply below_drew1 | refine below_set ?_ GE568.out) | exact HB.out)) hb)
              clear BK568
              clear HB
              have BK568 := n0_
              have HB := n1_
              clear n0_ n1_
              (try clear hb)
              (try clear hb2)
              (try clear hk)
              (try clear hi)
              refine hK.out _ _ ⟨(blk_cell BK568.out 0).trans rfl, (blk_cell BK568.out 1).trans rfl, (blk_cell BK568.out 2).trans rfl, (blk_cell BK568.out 3).trans rfl, ((HB.out.cell (World.block_lt_of_cell? w _ hw573_0)).trans hw573_0), ((HB.out.cell (World.block_lt_of_cell? w _ hw573_1)).trans hw573_1), ((HB.out.cell (World.block_lt_of_cell? w _ hw573_2)).trans hw573_2), ((HB.out.cell (World.block_lt_of_cell? w _ hw573_3)).trans hw573_3)⟩ (fun hHeld => ?_)
              clear hK K
              refine norm_ (a' := ?_) ?_ ?_
              rotate_left
              ·
               show Act.put _ (some 44) _ = _
               simp only [Act.put, List.setIfInBounds_toArray, List.set_cons_zero, List.set_cons_succ, i64_w, i32_w]
               rfl
              refine pure_ (i := 33) (N := some 45) (v := ?_) (a' := ?_) #[true, true, true, true, true, true, true, true, true, true, true, true, true, true, true, true, true, true, true, true, true, true, true, true, true, true, true, true, true, true, true, true, true, true, false, false] rfl rfl (any_of HT_.out (by kernel_rfl)) (fun _ _ _ h => h) (Or.inl ⟨by rfl, ?_⟩) ?_ ?_
              rotate_left
              ·
               intro w'
               go_simp
               with_reducible rfl
              rotate_left
              ·
               simp only [Act.put, List.setIfInBounds_toArray, List.set_cons_zero, List.set_cons_succ, i64_w, i32_w]
               rfl
              refine pure_ (i := 34) (N := some 46) (v := ?_) (a' := ?_) #[true, true, true, true, true, true, true, true, true, true, true, true, true, true, true, true, true, true, true, true, true, true, true, true, true, true, true, true, true, true, true, true, true, true, true, false] rfl rfl (any_of HT_.out (by kernel_rfl)) (fun _ _ _ h => h) (Or.inl ⟨by rfl, ?_⟩) ?_ ?_
              rotate_left
              ·
               intro w'
               go_simp
               with_reducible rfl
              rotate_left
              ·
               simp only [Act.put, List.setIfInBounds_toArray, List.set_cons_zero, List.set_cons_succ, i64_w, i32_w]
               rfl
              refine pure_ (i := 35) (N := some 47) (v := ?_) (a' := ?_) #[true, true, true, true, true, true, true, true, true, true, true, true, true, true, true, true, true, true, true, true, true, true, true, true, true, true, true, true, true, true, true, true, true, true, true, true] rfl rfl (any_of HT_.out (by kernel_rfl)) (fun _ _ _ h => h) (Or.inl ⟨by rfl, ?_⟩) ?_ ?_
              rotate_left
              ·
               intro w'
               go_simp
               with_reducible rfl
              rotate_left
              ·
               simp only [Act.put, List.setIfInBounds_toArray, List.set_cons_zero, List.set_cons_succ, i64_w, i32_w]
               rfl
              refine done_ (done_of HT_.out (by kernel_rfl)) ?_
              try go_wp2
              go_roundg k1
              case measure => have := HK1.out; omega
              case rel => exact ⟨(wrap64 (x7_1 + 1)), (by first | rfl | (simp; done) | (simp [*]; done)), H', ⟨by have := HK1.out; omega⟩, ⟨by repeat (first | (with_reducible first | exact HB.out | apply below_alloc | apply pw_below_drewN | apply below_drew1 | refine below_set ?_ GE568.out) | exact HB.out)⟩⟩
            ·
             rw [if_neg c16] at H
             exact absurd H (by simp)
           ·
            rw [if_neg c15] at H
            exact absurd H (by simp)
          ·
           rw [if_neg c13] at H
           have c13b0 : decide (0 < x7_1) = false := decide_eq_false c13
           clear c13
           have H' := Aside0.mk H
           clear H
           have p567 : 0 ≤ (x7_1 : Int) := of_decide_eq_true (by first | (with_reducible assumption) | assumption)
           have q567 : x7_1 < (l0.length : Int) := of_decide_eq_true (by first | (with_reducible assumption) | assumption)
           obtain ⟨ad567, e567, hx567_0, hx567_1, hx567_2, hx567_3⟩ := at_T118 HR0.out x7_1 p567 q567
           cases e567
           replace hx567_0 := (HB.out.cell (World.block_lt_of_cell? w _ hx567_0)).trans hx567_0
           replace hx567_1 := (HB.out.cell (World.block_lt_of_cell? w _ hx567_1)).trans hx567_1
           replace hx567_2 := (HB.out.cell (World.block_lt_of_cell? w _ hx567_2)).trans hx567_2
           replace hx567_3 := (HB.out.cell (World.block_lt_of_cell? w _ hx567_3)).trans hx567_3
           replace p567 := eq_true p567
           replace q567 := eq_true q567
           try go_wp2_with (first | ((with_reducible refine gate_dst (N := 4) rfl ?_); refine box_event ?hg (N := 4) ?hd (cs := #[.int .i64 0, .int .i64 0, .int .i64 0, .int .i64 0]) (t := 118) ?hr ?_; (case hd => rfl); (case hg => rfl); (case hr => first | (go_simp; done) | (go_simp; rfl)); intro gb568 hg w29 hbox hb; have n0_ := Aside0.mk (below_step (by repeat (first | (with_reducible first | exact HB.out | apply below_alloc | apply pw_below_drewN | apply below_drew1) | exact HB.out)) hb); have n1_ := Aside0.mk (hbox); have n2_ := Aside0.mk ((by rw [hg]; exact (below_size (by repeat (first | (with_reducible first | exact HB.out | apply below_alloc | apply pw_below_drewN | apply below_drew1) | exact HB.out))) : w.heap.size ≤ gb568)); have n3_ := Aside0.mk ((by rw [hg]; exact (below_size (by repeat (first | (with_reducible first | exact HB.out | apply below_alloc | apply pw_below_drewN | apply below_drew1) | exact HB.out))) : w.heap.size ≤ gb568)); clear HB; have HB := n0_; have BK568 := n1_; have GW568 := n2_; have GE568 := n3_; clear n0_ n1_ n2_ n3_; clear hb hbox hg; have hcz30_0 : w29.cell? ⟨gb568, 0, none⟩ = some (.int .i64 0) := (blk_cell BK568.out 0).trans rfl; have hcz30_1 : w29.cell? ⟨gb568, 1, none⟩ = some (.int .i64 0) := (blk_cell BK568.out 1).trans rfl; have hcz30_2 : w29.cell? ⟨gb568, 2, none⟩ = some (.int .i64 0) := (blk_cell BK568.out 2).trans rfl; have hcz30_3 : w29.cell? ⟨gb568, 3, none⟩ = some (.int .i64 0) := (blk_cell BK568.out 3).trans rfl; have hfz30_0 := blk_frozen BK568.out 0; have hfz30_1 := blk_frozen BK568.out 1; have hfz30_2 := blk_frozen BK568.out 2; have hfz30_3 := blk_frozen BK568.out 3))
           have n0_ : Aside0 (((((w29.setCell ⟨gb568, 0, none⟩ (.int .i64 ((rd_T118 l0 x7_1).f0))).setCell ⟨gb568, 1, none⟩ (.int .i64 ((rd_T118 l0 x7_1).f1))).setCell ⟨gb568, 2, none⟩ (.int .i64 ((rd_T118 l0 x7_1).f2))).setCell ⟨gb568, 3, none⟩ (.int .i64 ((rd_T118 l0 x7_1).f3))).heap[gb568]? = some (.cells #[.int .i64 ((rd_T118 l0 x7_1).f0), .int .i64 ((rd_T118 l0 x7_1).f1), .int .i64 ((rd_T118 l0 x7_1).f2), .int .i64 ((rd_T118 l0 x7_1).f3)] 118 (0, 0))) := ⟨by (with_reducible repeat (first | refine blk_drewN ?_ _ | refine blk_drew ?_ | refine blk_alloc ?_ _)); refine blk_put (cs := #[.int .i64 ((rd_T118 l0 x7_1).f0), .int .i64 ((rd_T118 l0 x7_1).f1), .int .i64 ((rd_T118 l0 x7_1).f2), .int .i64 0]) ?_ 3 _ rfl; (with_reducible repeat (first | refine blk_drewN ?_ _ | refine blk_drew ?_ | refine blk_alloc ?_ _)); refine blk_put (cs := #[.int .i64 ((rd_T118 l0 x7_1).f0), .int .i64 ((rd_T118 l0 x7_1).f1), .int .i64 0, .int .i64 0]) ?_ 2 _ rfl; (with_reducible repeat (first | refine blk_drewN ?_ _ | refine blk_drew ?_ | refine blk_alloc ?_ _)); refine blk_put (cs := #[.int .i64 ((rd_T118 l0 x7_1).f0), .int .i64 0, .int .i64 0, .int .i64 0]) ?_ 1 _ rfl; (with_reducible repeat (first | refine blk_drewN ?_ _ | refine blk_drew ?_ | refine blk_alloc ?_ _)); refine blk_put (cs := #[.int .i64 0, .int .i64 0, .int .i64 0, .int .i64 0]) ?_ 0 _ rfl; (with_reducible repeat (first | refine blk_drewN ?_ _ | refine blk_drew ?_ | refine blk_alloc ?_ _)); exact BK568.out⟩
           have n1_ : Aside0 (Below w.heap.size w ((((w29.setCell ⟨gb568, 0, none⟩ (.int .i64 ((rd_T118 l0 x7_1).f0))).setCell ⟨gb568, 1, none⟩ (.int .i64 ((rd_T118 l0 x7_1).f1))).setCell ⟨gb568, 2, none⟩ (.int .i64 ((rd_T118 l0 x7_1).f2))).setCell ⟨gb568, 3, none⟩ (.int .i64 ((rd_T118 l0 x7_1).f3)))) := ⟨by repeat (first | (with_reducible first | exact HB.out | apply below_alloc | apply pw_below_drewN | apply below_drew1 | refine below_set ?_ GE568.out) | exact HB.out)⟩
           (try clear BK568)
           (try clear HB)
           generalize ((((w29.setCell ⟨gb568, 0, none⟩ (.int .i64 ((rd_T118 l0 x7_1).f0))).setCell ⟨gb568, 1, none⟩ (.int .i64 ((rd_T118 l0 x7_1).f1))).setCell ⟨gb568, 2, none⟩ (.int .i64 ((rd_T118 l0 x7_1).f2))).setCell ⟨gb568, 3, none⟩ (.int .i64 ((rd_T118 l0 x7_1).f3))) = w31 at n0_ n1_ ⊢
           have BK568 := n0_
           have HB := n1_
           clear n0_ n1_
           have n0_ := Aside0.mk (blk_drew BK568.out)
           have n1_ := Aside0.mk (below_drew1 HB.out)
           clear BK568
           clear HB
           have BK568 := n0_
           have HB := n1_
           clear n0_ n1_
           have hq0_ : w31.cell? ⟨gb568, 0, none⟩ = some (.int .i64 ((rd_T118 l0 x7_1).f0)) := (blk_cell BK568.out 0).trans rfl
           have hq1_ : w31.cell? ⟨gb568, 1, none⟩ = some (.int .i64 ((rd_T118 l0 x7_1).f1)) := (blk_cell BK568.out 1).trans rfl
           have hq2_ : w31.cell? ⟨gb568, 2, none⟩ = some (.int .i64 ((rd_T118 l0 x7_1).f2)) := (blk_cell BK568.out 2).trans rfl
           have hq3_ : w31.cell? ⟨gb568, 3, none⟩ = some (.int .i64 ((rd_T118 l0 x7_1).f3)) := (blk_cell BK568.out 3).trans rfl
           go_quiet ((first | (go_at_call 82; apply Calls.quiet_of; ((with_reducible refine (impl_InRange.calls ((rd_T118 l0 x7_1).f0) 0 2000 true _ A5.out).mono ?_); exact fun _ _ h_ => ⟨h_.1, h_.2.out⟩)) | (go_at_call 82; apply Calls.quiet_of; ((with_reducible refine (impl_InRange.calls ((rd_T118 l0 x7_1).f1) 1 96 true _ A7.out).mono ?_); exact fun _ _ h_ => ⟨h_.1, h_.2.out⟩)) | (go_at_call 82; apply Calls.quiet_of; ((with_reducible refine (impl_InRange.calls ((rd_T118 l0 x7_1).f2) 21 108 true _ A9.out).mono ?_); exact fun _ _ h_ => ⟨h_.1, h_.2.out⟩)) | (go_at_call 82; apply Calls.quiet_of; ((with_reducible refine (impl_InRange.calls ((rd_T118 l0 x7_1).f3) 1 4 true _ A11.out).mono ?_); exact fun _ _ h_ => ⟨h_.1, h_.2.out⟩))))
           have nBK568_ := Aside0.mk (blk_drewN (w := w31) BK568.out nq)
           have nHB_ := Aside0.mk (pw_below_drewN (W := w31) ⟨HB.out.os, HB.out.tape, HB.out.output, HB.out.size, HB.out.block⟩ nq)
           clear BK568 HB hq0_ hq1_ hq2_ hq3_
           have BK568 := nBK568_
           have HB := nHB_
           clear nBK568_ nHB_
           generalize w31.drewN nq = w32 at BK568 HB ⊢
           try go_wp2
           go_roundg k1
           case measure => have := HK1.out; omega
           case rel => exact ⟨(wrap64 (x7_1 + 1)), (by first | rfl | (simp; done) | (simp [*]; done)), H', ⟨by have := HK1.out; omega⟩, ⟨by repeat (first | (with_reducible first | exact HB.out | apply below_alloc | apply pw_below_drewN | apply below_drew1 | refine below_set ?_ GE568.out) | exact HB.out)⟩⟩
         ·
          replace c12 := Bool.eq_false_iff.mpr c12
          subst c12
          rw [if_neg (show ¬ (false = true) by decide)] at H
          obtain rfl := Option.some.inj H
          have p567 : 0 ≤ (x7_1 : Int) := of_decide_eq_true (by first | (with_reducible assumption) | assumption)
          have q567 : x7_1 < (l0.length : Int) := of_decide_eq_true (by first | (with_reducible assumption) | assumption)
          obtain ⟨ad567, e567, hx567_0, hx567_1, hx567_2, hx567_3⟩ := at_T118 HR0.out x7_1 p567 q567
          cases e567
          replace hx567_0 := (HB.out.cell (World.block_lt_of_cell? w _ hx567_0)).trans hx567_0
          replace hx567_1 := (HB.out.cell (World.block_lt_of_cell? w _ hx567_1)).trans hx567_1
          replace hx567_2 := (HB.out.cell (World.block_lt_of_cell? w _ hx567_2)).trans hx567_2
          replace hx567_3 := (HB.out.cell (World.block_lt_of_cell? w _ hx567_3)).trans hx567_3
          replace p567 := eq_true p567
          replace q567 := eq_true q567
          try go_wp2_with (first | ((with_reducible refine gate_dst (N := 4) rfl ?_); refine box_event ?hg (N := 4) ?hd (cs := #[.int .i64 0, .int .i64 0, .int .i64 0, .int .i64 0]) (t := 118) ?hr ?_; (case hd => rfl); (case hg => rfl); (case hr => first | (go_simp; done) | (go_simp; rfl)); intro gb568 hg w33 hbox hb; have n0_ := Aside0.mk (below_step (by repeat (first | (with_reducible first | exact HB.out | apply below_alloc | apply pw_below_drewN | apply below_drew1) | exact HB.out)) hb); have n1_ := Aside0.mk (hbox); have n2_ := Aside0.mk ((by rw [hg]; exact (below_size (by repeat (first | (with_reducible first | exact HB.out | apply below_alloc | apply pw_below_drewN | apply below_drew1) | exact HB.out))) : w.heap.size ≤ gb568)); have n3_ := Aside0.mk ((by rw [hg]; exact (below_size (by repeat (first | (with_reducible first | exact HB.out | apply below_alloc | apply pw_below_drewN | apply below_drew1) | exact HB.out))) : w.heap.size ≤ gb568)); clear HB; have HB := n0_; have BK568 := n1_; have GW568 := n2_; have GE568 := n3_; clear n0_ n1_ n2_ n3_; clear hb hbox hg; have hcz34_0 : w33.cell? ⟨gb568, 0, none⟩ = some (.int .i64 0) := (blk_cell BK568.out 0).trans rfl; have hcz34_1 : w33.cell? ⟨gb568, 1, none⟩ = some (.int .i64 0) := (blk_cell BK568.out 1).trans rfl; have hcz34_2 : w33.cell? ⟨gb568, 2, none⟩ = some (.int .i64 0) := (blk_cell BK568.out 2).trans rfl; have hcz34_3 : w33.cell? ⟨gb568, 3, none⟩ = some (.int .i64 0) := (blk_cell BK568.out 3).trans rfl; have hfz34_0 := blk_frozen BK568.out 0; have hfz34_1 := blk_frozen BK568.out 1; have hfz34_2 := blk_frozen BK568.out 2; have hfz34_3 := blk_frozen BK568.out 3))
          have n0_ : Aside0 (((((w33.setCell ⟨gb568, 0, none⟩ (.int .i64 ((rd_T118 l0 x7_1).f0))).setCell ⟨gb568, 1, none⟩ (.int .i64 ((rd_T118 l0 x7_1).f1))).setCell ⟨gb568, 2, none⟩ (.int .i64 ((rd_T118 l0 x7_1).f2))).setCell ⟨gb568, 3, none⟩ (.int .i64 ((rd_T118 l0 x7_1).f3))).heap[gb568]? = some (.cells #[.int .i64 ((rd_T118 l0 x7_1).f0), .int .i64 ((rd_T118 l0 x7_1).f1), .int .i64 ((rd_T118 l0 x7_1).f2), .int .i64 ((rd_T118 l0 x7_1).f3)] 118 (0, 0))) := ⟨by (with_reducible repeat (first | refine blk_drewN ?_ _ | refine blk_drew ?_ | refine blk_alloc ?_ _)); refine blk_put (cs := #[.int .i64 ((rd_T118 l0 x7_1).f0), .int .i64 ((rd_T118 l0 x7_1).f1), .int .i64 ((rd_T118 l0 x7_1).f2), .int .i64 0]) ?_ 3 _ rfl; (with_reducible repeat (first | refine blk_drewN ?_ _ | refine blk_drew ?_ | refine blk_alloc ?_ _)); refine blk_put (cs := #[.int .i64 ((rd_T118 l0 x7_1).f0), .int .i64 ((rd_T118 l0 x7_1).f1), .int .i64 0, .int .i64 0]) ?_ 2 _ rfl; (with_reducible repeat (first | refine blk_drewN ?_ _ | refine blk_drew ?_ | refine blk_alloc ?_ _)); refine blk_put (cs := #[.int .i64 ((rd_T118 l0 x7_1).f0), .int .i64 0, .int .i64 0, .int .i64 0]) ?_ 1 _ rfl; (with_reducible repeat (first | refine blk_drewN ?_ _ | refine blk_drew ?_ | refine blk_alloc ?_ _)); refine blk_put (cs := #[.int .i64 0, .int .i64 0, .int .i64 0, .int .i64 0]) ?_ 0 _ rfl; (with_reducible repeat (first | refine blk_drewN ?_ _ | refine blk_drew ?_ | refine blk_alloc ?_ _)); exact BK568.out⟩
          have n1_ : Aside0 (Below w.heap.size w ((((w33.setCell ⟨gb568, 0, none⟩ (.int .i64 ((rd_T118 l0 x7_1).f0))).setCell ⟨gb568, 1, none⟩ (.int .i64 ((rd_T118 l0 x7_1).f1))).setCell ⟨gb568, 2, none⟩ (.int .i64 ((rd_T118 l0 x7_1).f2))).setCell ⟨gb568, 3, none⟩ (.int .i64 ((rd_T118 l0 x7_1).f3)))) := ⟨by repeat (first | (with_reducible first | exact HB.out | apply below_alloc | apply pw_below_drewN | apply below_drew1 | refine below_set ?_ GE568.out) | exact HB.out)⟩
          (try clear BK568)
          (try clear HB)
          generalize ((((w33.setCell ⟨gb568, 0, none⟩ (.int .i64 ((rd_T118 l0 x7_1).f0))).setCell ⟨gb568, 1, none⟩ (.int .i64 ((rd_T118 l0 x7_1).f1))).setCell ⟨gb568, 2, none⟩ (.int .i64 ((rd_T118 l0 x7_1).f2))).setCell ⟨gb568, 3, none⟩ (.int .i64 ((rd_T118 l0 x7_1).f3))) = w35 at n0_ n1_ ⊢
          have BK568 := n0_
          have HB := n1_
          clear n0_ n1_
          have n0_ := Aside0.mk (blk_drew BK568.out)
          have n1_ := Aside0.mk (below_drew1 HB.out)
          clear BK568
          clear HB
          have BK568 := n0_
          have HB := n1_
          clear n0_ n1_
          have hq0_ : w35.cell? ⟨gb568, 0, none⟩ = some (.int .i64 ((rd_T118 l0 x7_1).f0)) := (blk_cell BK568.out 0).trans rfl
          have hq1_ : w35.cell? ⟨gb568, 1, none⟩ = some (.int .i64 ((rd_T118 l0 x7_1).f1)) := (blk_cell BK568.out 1).trans rfl
          have hq2_ : w35.cell? ⟨gb568, 2, none⟩ = some (.int .i64 ((rd_T118 l0 x7_1).f2)) := (blk_cell BK568.out 2).trans rfl
          have hq3_ : w35.cell? ⟨gb568, 3, none⟩ = some (.int .i64 ((rd_T118 l0 x7_1).f3)) := (blk_cell BK568.out 3).trans rfl
          go_quiet ((first | (go_at_call 82; apply Calls.quiet_of; ((with_reducible refine (impl_InRange.calls ((rd_T118 l0 x7_1).f0) 0 2000 true _ A5.out).mono ?_); exact fun _ _ h_ => ⟨h_.1, h_.2.out⟩)) | (go_at_call 82; apply Calls.quiet_of; ((with_reducible refine (impl_InRange.calls ((rd_T118 l0 x7_1).f1) 1 96 true _ A7.out).mono ?_); exact fun _ _ h_ => ⟨h_.1, h_.2.out⟩)) | (go_at_call 82; apply Calls.quiet_of; ((with_reducible refine (impl_InRange.calls ((rd_T118 l0 x7_1).f2) 21 108 true _ A9.out).mono ?_); exact fun _ _ h_ => ⟨h_.1, h_.2.out⟩)) | (go_at_call 82; apply Calls.quiet_of; ((with_reducible refine (impl_InRange.calls ((rd_T118 l0 x7_1).f3) 1 4 false _ A11.out).mono ?_); exact fun _ _ h_ => ⟨h_.1, h_.2.out⟩))))
          have nBK568_ := Aside0.mk (blk_drewN (w := w35) BK568.out nq)
          have nHB_ := Aside0.mk (pw_below_drewN (W := w35) ⟨HB.out.os, HB.out.tape, HB.out.output, HB.out.size, HB.out.block⟩ nq)
          clear BK568 HB hq0_ hq1_ hq2_ hq3_
          have BK568 := nBK568_
          have HB := nHB_
          clear nBK568_ nHB_
          generalize w35.drewN nq = w36 at BK568 HB ⊢
          try go_wp2
          go_ret
          exact ⟨by first | rfl | (simp [errW_none, errW_some] <;> rfl) | (simp [*, errW_none, errW_some] <;> rfl), by repeat (first | (with_reducible first | exact HB.out | apply below_alloc | apply pw_below_drewN | apply below_drew1 | refine below_set ?_ GE568.out) | exact HB.out)⟩
        ·
         replace c10 := Bool.eq_false_iff.mpr c10
         subst c10
         rw [if_neg (show ¬ (false = true) by decide)] at H
         obtain rfl := Option.some.inj H
         have p567 : 0 ≤ (x7_1 : Int) := of_decide_eq_true (by first | (with_reducible assumption) | assumption)
         have q567 : x7_1 < (l0.length : Int) := of_decide_eq_true (by first | (with_reducible assumption) | assumption)
         obtain ⟨ad567, e567, hx567_0, hx567_1, hx567_2, hx567_3⟩ := at_T118 HR0.out x7_1 p567 q567
         cases e567
         replace hx567_0 := (HB.out.cell (World.block_lt_of_cell? w _ hx567_0)).trans hx567_0
         replace hx567_1 := (HB.out.cell (World.block_lt_of_cell? w _ hx567_1)).trans hx567_1
         replace hx567_2 := (HB.out.cell (World.block_lt_of_cell? w _ hx567_2)).trans hx567_2
         replace hx567_3 := (HB.out.cell (World.block_lt_of_cell? w _ hx567_3)).trans hx567_3
         replace p567 := eq_true p567
         replace q567 := eq_true q567
         try go_wp2_with (first | ((with_reducible refine gate_dst (N := 4) rfl ?_); refine box_event ?hg (N := 4) ?hd (cs := #[.int .i64 0, .int .i64 0, .int .i64 0, .int .i64 0]) (t := 118) ?hr ?_; (case hd => rfl); (case hg => rfl); (case hr => first | (go_simp; done) | (go_simp; rfl)); intro gb568 hg w37 hbox hb; have n0_ := Aside0.mk (below_step (by repeat (first | (with_reducible first | exact HB.out | apply below_alloc | apply pw_below_drewN | apply below_drew1) | exact HB.out)) hb); have n1_ := Aside0.mk (hbox); have n2_ := Aside0.mk ((by rw [hg]; exact (below_size (by repeat (first | (with_reducible first | exact HB.out | apply below_alloc | apply pw_below_drewN | apply below_drew1) | exact HB.out))) : w.heap.size ≤ gb568)); have n3_ := Aside0.mk ((by rw [hg]; exact (below_size (by repeat (first | (with_reducible first | exact HB.out | apply below_alloc | apply pw_below_drewN | apply below_drew1) | exact HB.out))) : w.heap.size ≤ gb568)); clear HB; have HB := n0_; have BK568 := n1_; have GW568 := n2_; have GE568 := n3_; clear n0_ n1_ n2_ n3_; clear hb hbox hg; have hcz38_0 : w37.cell? ⟨gb568, 0, none⟩ = some (.int .i64 0) := (blk_cell BK568.out 0).trans rfl; have hcz38_1 : w37.cell? ⟨gb568, 1, none⟩ = some (.int .i64 0) := (blk_cell BK568.out 1).trans rfl; have hcz38_2 : w37.cell? ⟨gb568, 2, none⟩ = some (.int .i64 0) := (blk_cell BK568.out 2).trans rfl; have hcz38_3 : w37.cell? ⟨gb568, 3, none⟩ = some (.int .i64 0) := (blk_cell BK568.out 3).trans rfl; have hfz38_0 := blk_frozen BK568.out 0; have hfz38_1 := blk_frozen BK568.out 1; have hfz38_2 := blk_frozen BK568.out 2; have hfz38_3 := blk_frozen BK568.out 3))
         have n0_ : Aside0 (((((w37.setCell ⟨gb568, 0, none⟩ (.int .i64 ((rd_T118 l0 x7_1).f0))).setCell ⟨gb568, 1, none⟩ (.int .i64 ((rd_T118 l0 x7_1).f1))).setCell ⟨gb568, 2, none⟩ (.int .i64 ((rd_T118 l0 x7_1).f2))).setCell ⟨gb568, 3, none⟩ (.int .i64 ((rd_T118 l0 x7_1).f3))).heap[gb568]? = some (.cells #[.int .i64 ((rd_T118 l0 x7_1).f0), .int .i64 ((rd_T118 l0 x7_1).f1), .int .i64 ((rd_T118 l0 x7_1).f2), .int .i64 ((rd_T118 l0 x7_1).f3)] 118 (0, 0))) := ⟨by (with_reducible repeat (first | refine blk_drewN ?_ _ | refine blk_drew ?_ | refine blk_alloc ?_ _)); refine blk_put (cs := #[.int .i64 ((rd_T118 l0 x7_1).f0), .int .i64 ((rd_T118 l0 x7_1).f1), .int .i64 ((rd_T118 l0 x7_1).f2), .int .i64 0]) ?_ 3 _ rfl; (with_reducible repeat (first | refine blk_drewN ?_ _ | refine blk_drew ?_ | refine blk_alloc ?_ _)); refine blk_put (cs := #[.int .i64 ((rd_T118 l0 x7_1).f0), .int .i64 ((rd_T118 l0 x7_1).f1), .int .i64 0, .int .i64 0]) ?_ 2 _ rfl; (with_reducible repeat (first | refine blk_drewN ?_ _ | refine blk_drew ?_ | refine blk_alloc ?_ _)); refine blk_put (cs := #[.int .i64 ((rd_T118 l0 x7_1).f0), .int .i64 0, .int .i64 0, .int .i64 0]) ?_ 1 _ rfl; (with_reducible repeat (first | refine blk_drewN ?_ _ | refine blk_drew ?_ | refine blk_alloc ?_ _)); refine blk_put (cs := #[.int .i64 0, .int .i64 0, .int .i64 0, .int .i64 0]) ?_ 0 _ rfl; (with_reducible repeat (first | refine blk_drewN ?_ _ | refine blk_drew ?_ | refine blk_alloc ?_ _)); exact BK568.out⟩
         have n1_ : Aside0 (Below w.heap.size w ((((w37.setCell ⟨gb568, 0, none⟩ (.int .i64 ((rd_T118 l0 x7_1).f0))).setCell ⟨gb568, 1, none⟩ (.int .i64 ((rd_T118 l0 x7_1).f1))).setCell ⟨gb568, 2, none⟩ (.int .i64 ((rd_T118 l0 x7_1).f2))).setCell ⟨gb568, 3, none⟩ (.int .i64 ((rd_T118 l0 x7_1).f3)))) := ⟨by repeat (first | (with_reducible first | exact HB.out | apply below_alloc | apply pw_below_drewN | apply below_drew1 | refine below_set ?_ GE568.out) | exact HB.out)⟩
         (try clear BK568)
         (try clear HB)
         generalize ((((w37.setCell ⟨gb568, 0, none⟩ (.int .i64 ((rd_T118 l0 x7_1).f0))).setCell ⟨gb568, 1, none⟩ (.int .i64 ((rd_T118 l0 x7_1).f1))).setCell ⟨gb568, 2, none⟩ (.int .i64 ((rd_T118 l0 x7_1).f2))).setCell ⟨gb568, 3, none⟩ (.int .i64 ((rd_T118 l0 x7_1).f3))) = w39 at n0_ n1_ ⊢
         have BK568 := n0_
         have HB := n1_
         clear n0_ n1_
         have n0_ := Aside0.mk (blk_drew BK568.out)
         have n1_ := Aside0.mk (below_drew1 HB.out)
         clear BK568
         clear HB
         have BK568 := n0_
         have HB := n1_
         clear n0_ n1_
         have hq0_ : w39.cell? ⟨gb568, 0, none⟩ = some (.int .i64 ((rd_T118 l0 x7_1).f0)) := (blk_cell BK568.out 0).trans rfl
         have hq1_ : w39.cell? ⟨gb568, 1, none⟩ = some (.int .i64 ((rd_T118 l0 x7_1).f1)) := (blk_cell BK568.out 1).trans rfl
         have hq2_ : w39.cell? ⟨gb568, 2, none⟩ = some (.int .i64 ((rd_T118 l0 x7_1).f2)) := (blk_cell BK568.out 2).trans rfl
         have hq3_ : w39.cell? ⟨gb568, 3, none⟩ = some (.int .i64 ((rd_T118 l0 x7_1).f3)) := (blk_cell BK568.out 3).trans rfl
         go_quiet ((first | (go_at_call 82; apply Calls.quiet_of; ((with_reducible refine (impl_InRange.calls ((rd_T118 l0 x7_1).f0) 0 2000 true _ A5.out).mono ?_); exact fun _ _ h_ => ⟨h_.1, h_.2.out⟩)) | (go_at_call 82; apply Calls.quiet_of; ((with_reducible refine (impl_InRange.calls ((rd_T118 l0 x7_1).f1) 1 96 true _ A7.out).mono ?_); exact fun _ _ h_ => ⟨h_.1, h_.2.out⟩)) | (go_at_call 82; apply Calls.quiet_of; ((with_reducible refine (impl_InRange.calls ((rd_T118 l0 x7_1).f2) 21 108 false _ A9.out).mono ?_); exact fun _ _ h_ => ⟨h_.1, h_.2.out⟩))))
         have nBK568_ := Aside0.mk (blk_drewN (w := w39) BK568.out nq)
         have nHB_ := Aside0.mk (pw_below_drewN (W := w39) ⟨HB.out.os, HB.out.tape, HB.out.output, HB.out.size, HB.out.block⟩ nq)
         clear BK568 HB hq0_ hq1_ hq2_ hq3_
         have BK568 := nBK568_
         have HB := nHB_
         clear nBK568_ nHB_
         generalize w39.drewN nq = w40 at BK568 HB ⊢
         try go_wp2
         go_ret
         exact ⟨by first | rfl | (simp [errW_none, errW_some] <;> rfl) | (simp [*, errW_none, errW_some] <;> rfl), by repeat (first | (with_reducible first | exact HB.out | apply below_alloc | apply pw_below_drewN | apply below_drew1 | refine below_set ?_ GE568.out) | exact HB.out)⟩
       ·
        replace c8 := Bool.eq_false_iff.mpr c8
        subst c8
        rw [if_neg (show ¬ (false = true) by decide)] at H
        obtain rfl := Option.some.inj H
        have p567 : 0 ≤ (x7_1 : Int) := of_decide_eq_true (by first | (with_reducible assumption) | assumption)
        have q567 : x7_1 < (l0.length : Int) := of_decide_eq_true (by first | (with_reducible assumption) | assumption)
        obtain ⟨ad567, e567, hx567_0, hx567_1, hx567_2, hx567_3⟩ := at_T118 HR0.out x7_1 p567 q567
        cases e567
        replace hx567_0 := (HB.out.cell (World.block_lt_of_cell? w _ hx567_0)).trans hx567_0
        replace hx567_1 := (HB.out.cell (World.block_lt_of_cell? w _ hx567_1)).trans hx567_1
        replace hx567_2 := (HB.out.cell (World.block_lt_of_cell? w _ hx567_2)).trans hx567_2
        replace hx567_3 := (HB.out.cell (World.block_lt_of_cell? w _ hx567_3)).trans hx567_3
        replace p567 := eq_true p567
        replace q567 := eq_true q567
        try go_wp2_with (first | ((with_reducible refine gate_dst (N := 4) rfl ?_); refine box_event ?hg (N := 4) ?hd (cs := #[.int .i64 0, .int .i64 0, .int .i64 0, .int .i64 0]) (t := 118) ?hr ?_; (case hd => rfl); (case hg => rfl); (case hr => first | (go_simp; done) | (go_simp; rfl)); intro gb568 hg w41 hbox hb; have n0_ := Aside0.mk (below_step (by repeat (first | (with_reducible first | exact HB.out | apply below_alloc | apply pw_below_drewN | apply below_drew1) | exact HB.out)) hb); have n1_ := Aside0.mk (hbox); have n2_ := Aside0.mk ((by rw [hg]; exact (below_size (by repeat (first | (with_reducible first | exact HB.out | apply below_alloc | apply pw_below_drewN | apply below_drew1) | exact HB.out))) : w.heap.size ≤ gb568)); have n3_ := Aside0.mk ((by rw [hg]; exact (below_size (by repeat (first | (with_reducible first | exact HB.out | apply below_alloc | apply pw_below_drewN | apply below_drew1) | exact HB.out))) : w.heap.size ≤ gb568)); clear HB; have HB := n0_; have BK568 := n1_; have GW568 := n2_; have GE568 := n3_; clear n0_ n1_ n2_ n3_; clear hb hbox hg; have hcz42_0 : w41.cell? ⟨gb568, 0, none⟩ = some (.int .i64 0) := (blk_cell BK568.out 0).trans rfl; have hcz42_1 : w41.cell? ⟨gb568, 1, none⟩ = some (.int .i64 0) := (blk_cell BK568.out 1).trans rfl; have hcz42_2 : w41.cell? ⟨gb568, 2, none⟩ = some (.int .i64 0) := (blk_cell BK568.out 2).trans rfl; have hcz42_3 : w41.cell? ⟨gb568, 3, none⟩ = some (.int .i64 0) := (blk_cell BK568.out 3).trans rfl; have hfz42_0 := blk_frozen BK568.out 0; have hfz42_1 := blk_frozen BK568.out 1; have hfz42_2 := blk_frozen BK568.out 2; have hfz42_3 := blk_frozen BK568.out 3))
        have n0_ : Aside0 (((((w41.setCell ⟨gb568, 0, none⟩ (.int .i64 ((rd_T118 l0 x7_1).f0))).setCell ⟨gb568, 1, none⟩ (.int .i64 ((rd_T118 l0 x7_1).f1))).setCell ⟨gb568, 2, none⟩ (.int .i64 ((rd_T118 l0 x7_1).f2))).setCell ⟨gb568, 3, none⟩ (.int .i64 ((rd_T118 l0 x7_1).f3))).heap[gb568]? = some (.cells #[.int .i64 ((rd_T118 l0 x7_1).f0), .int .i64 ((rd_T118 l0 x7_1).f1), .int .i64 ((rd_T118 l0 x7_1).f2), .int .i64 ((rd_T118 l0 x7_1).f3)] 118 (0, 0))) := ⟨by (with_reducible repeat (first | refine blk_drewN ?_ _ | refine blk_drew ?_ | refine blk_alloc ?_ _)); refine blk_put (cs := #[.int .i64 ((rd_T118 l0 x7_1).f0), .int .i64 ((rd_T118 l0 x7_1).f1), .int .i64 ((rd_T118 l0 x7_1).f2), .int .i64 0]) ?_ 3 _ rfl; (with_reducible repeat (first | refine blk_drewN ?_ _ | refine blk_drew ?_ | refine blk_alloc ?_ _)); refine blk_put (cs := #[.int .i64 ((rd_T118 l0 x7_1).f0), .int .i64 ((rd_T118 l0 x7_1).f1), .int .i64 0, .int .i64 0]) ?_ 2 _ rfl; (with_reducible repeat (first | refine blk_drewN ?_ _ | refine blk_drew ?_ | refine blk_alloc ?_ _)); refine blk_put (cs := #[.int .i64 ((rd_T118 l0 x7_1).f0), .int .i64 0, .int .i64 0, .int .i64 0]) ?_ 1 _ rfl; (with_reducible repeat (first | refine blk_drewN ?_ _ | refine blk_drew ?_ | refine blk_alloc ?_ _)); refine blk_put (cs := #[.int .i64 0, .int .i64 0, .int .i64 0, .int .i64 0]) ?_ 0 _ rfl; (with_reducible repeat (first | refine blk_drewN ?_ _ | refine blk_drew ?_ | refine blk_alloc ?_ _)); exact BK568.out⟩
        have n1_ : Aside0 (Below w.heap.size w ((((w41.setCell ⟨gb568, 0, none⟩ (.int .i64 ((rd_T118 l0 x7_1).f0))).setCell ⟨gb568, 1, none⟩ (.int .i64 ((rd_T118 l0 x7_1).f1))).setCell ⟨gb568, 2, none⟩ (.int .i64 ((rd_T118 l0 x7_1).f2))).setCell ⟨gb568, 3, none⟩ (.int .i64 ((rd_T118 l0 x7_1).f3)))) := ⟨by repeat (first | (with_reducible first | exact HB.out | apply below_alloc | apply pw_below_drewN | apply below_drew1 | refine below_set ?_ GE568.out) | exact HB.out)⟩
        (try clear BK568)
        (try clear HB)
        generalize ((((w41.setCell ⟨gb568, 0, none⟩ (.int .i64 ((rd_T118 l0 x7_1).f0))).setCell ⟨gb568, 1, none⟩ (.int .i64 ((rd_T118 l0 x7_1).f1))).setCell ⟨gb568, 2, none⟩ (.int .i64 ((rd_T118 l0 x7_1).f2))).setCell ⟨gb568, 3, none⟩ (.int .i64 ((rd_T118 l0 x7_1).f3))) = w43 at n0_ n1_ ⊢
        have BK568 := n0_
        have HB := n1_
        clear n0_ n1_
        have n0_ := Aside0.mk (blk_drew BK568.out)
        have n1_ := Aside0.mk (below_drew1 HB.out)
        clear BK568
        clear HB
        have BK568 := n0_
        have HB := n1_
        clear n0_ n1_
        have hq0_ : w43.cell? ⟨gb568, 0, none⟩ = some (.int .i64 ((rd_T118 l0 x7_1).f0)) := (blk_cell BK568.out 0).trans rfl
        have hq1_ : w43.cell? ⟨gb568, 1, none⟩ = some (.int .i64 ((rd_T118 l0 x7_1).f1)) := (blk_cell BK568.out 1).trans rfl
        have hq2_ : w43.cell? ⟨gb568, 2, none⟩ = some (.int .i64 ((rd_T118 l0 x7_1).f2)) := (blk_cell BK568.out 2).trans rfl
        have hq3_ : w43.cell? ⟨gb568, 3, none⟩ = some (.int .i64 ((rd_T118 l0 x7_1).f3)) := (blk_cell BK568.out 3).trans rfl
        go_quiet ((first | (go_at_call 82; apply Calls.quiet_of; ((with_reducible refine (impl_InRange.calls ((rd_T118 l0 x7_1).f0) 0 2000 true _ A5.out).mono ?_); exact fun _ _ h_ => ⟨h_.1, h_.2.out⟩)) | (go_at_call 82; apply Calls.quiet_of; ((with_reducible refine (impl_InRange.calls ((rd_T118 l0 x7_1).f1) 1 96 false _ A7.out).mono ?_); exact fun _ _ h_ => ⟨h_.1, h_.2.out⟩))))
        have nBK568_ := Aside0.mk (blk_drewN (w := w43) BK568.out nq)
        have nHB_ := Aside0.mk (pw_below_drewN (W := w43) ⟨HB.out.os, HB.out.tape, HB.out.output, HB.out.size, HB.out.block⟩ nq)
        clear BK568 HB hq0_ hq1_ hq2_ hq3_
        have BK568 := nBK568_
        have HB := nHB_
        clear nBK568_ nHB_
        generalize w43.drewN nq = w44 at BK568 HB ⊢
        try go_wp2
        go_ret
        exact ⟨by first | rfl | (simp [errW_none, errW_some] <;> rfl) | (simp [*, errW_none, errW_some] <;> rfl), by repeat (first | (with_reducible first | exact HB.out | apply below_alloc | apply pw_below_drewN | apply below_drew1 | refine below_set ?_ GE568.out) | exact HB.out)⟩
      ·
       replace c6 := Bool.eq_false_iff.mpr c6
       subst c6
       rw [if_neg (show ¬ (false = true) by decide)] at H
       obtain rfl := Option.some.inj H
       have p567 : 0 ≤ (x7_1 : Int) := of_decide_eq_true (by first | (with_reducible assumption) | assumption)
       have q567 : x7_1 < (l0.length : Int) := of_decide_eq_true (by first | (with_reducible assumption) | assumption)
       obtain ⟨ad567, e567, hx567_0, hx567_1, hx567_2, hx567_3⟩ := at_T118 HR0.out x7_1 p567 q567
       cases e567
       replace hx567_0 := (HB.out.cell (World.block_lt_of_cell? w _ hx567_0)).trans hx567_0
       replace hx567_1 := (HB.out.cell (World.block_lt_of_cell? w _ hx567_1)).trans hx567_1
       replace hx567_2 := (HB.out.cell (World.block_lt_of_cell? w _ hx567_2)).trans hx567_2
       replace hx567_3 := (HB.out.cell (World.block_lt_of_cell? w _ hx567_3)).trans hx567_3
       replace p567 := eq_true p567
       replace q567 := eq_true q567
       try go_wp2_with (first | ((with_reducible refine gate_dst (N := 4) rfl ?_); refine box_event ?hg (N := 4) ?hd (cs := #[.int .i64 0, .int .i64 0, .int .i64 0, .int .i64 0]) (t := 118) ?hr ?_; (case hd => rfl); (case hg => rfl); (case hr => first | (go_simp; done) | (go_simp; rfl)); intro gb568 hg w45 hbox hb; have n0_ := Aside0.mk (below_step (by repeat (first | (with_reducible first | exact HB.out | apply below_alloc | apply pw_below_drewN | apply below_drew1) | exact HB.out)) hb); have n1_ := Aside0.mk (hbox); have n2_ := Aside0.mk ((by rw [hg]; exact (below_size (by repeat (first | (with_reducible first | exact HB.out | apply below_alloc | apply pw_below_drewN | apply below_drew1) | exact HB.out))) : w.heap.size ≤ gb568)); have n3_ := Aside0.mk ((by rw [hg]; exact (below_size (by repeat (first | (with_reducible first | exact HB.out | apply below_alloc | apply pw_below_drewN | apply below_drew1) | exact HB.out))) : w.heap.size ≤ gb568)); clear HB; have HB := n0_; have BK568 := n1_; have GW568 := n2_; have GE568 := n3_; clear n0_ n1_ n2_ n3_; clear hb hbox hg; have hcz46_0 : w45.cell? ⟨gb568, 0, none⟩ = some (.int .i64 0) := (blk_cell BK568.out 0).trans rfl; have hcz46_1 : w45.cell? ⟨gb568, 1, none⟩ = some (.int .i64 0) := (blk_cell BK568.out 1).trans rfl; have hcz46_2 : w45.cell? ⟨gb568, 2, none⟩ = some (.int .i64 0) := (blk_cell BK568.out 2).trans rfl; have hcz46_3 : w45.cell? ⟨gb568, 3, none⟩ = some (.int .i64 0) := (blk_cell BK568.out 3).trans rfl; have hfz46_0 := blk_frozen BK568.out 0; have hfz46_1 := blk_frozen BK568.out 1; have hfz46_2 := blk_frozen BK568.out 2; have hfz46_3 := blk_frozen BK568.out 3))
       have n0_ : Aside0 (((((w45.setCell ⟨gb568, 0, none⟩ (.int .i64 ((rd_T118 l0 x7_1).f0))).setCell ⟨gb568, 1, none⟩ (.int .i64 ((rd_T118 l0 x7_1).f1))).setCell ⟨gb568, 2, none⟩ (.int .i64 ((rd_T118 l0 x7_1).f2))).setCell ⟨gb568, 3, none⟩ (.int .i64 ((rd_T118 l0 x7_1).f3))).heap[gb568]? = some (.cells #[.int .i64 ((rd_T118 l0 x7_1).f0), .int .i64 ((rd_T118 l0 x7_1).f1), .int .i64 ((rd_T118 l0 x7_1).f2), .int .i64 ((rd_T118 l0 x7_1).f3)] 118 (0, 0))) := ⟨by (with_reducible repeat (first | refine blk_drewN ?_ _ | refine blk_drew ?_ | refine blk_alloc ?_ _)); refine blk_put (cs := #[.int .i64 ((rd_T118 l0 x7_1).f0), .int .i64 ((rd_T118 l0 x7_1).f1), .int .i64 ((rd_T118 l0 x7_1).f2), .int .i64 0]) ?_ 3 _ rfl; (with_reducible repeat (first | refine blk_drewN ?_ _ | refine blk_drew ?_ | refine blk_alloc ?_ _)); refine blk_put (cs := #[.int .i64 ((rd_T118 l0 x7_1).f0), .int .i64 ((rd_T118 l0 x7_1).f1), .int .i64 0, .int .i64 0]) ?_ 2 _ rfl; (with_reducible repeat (first | refine blk_drewN ?_ _ | refine blk_drew ?_ | refine blk_alloc ?_ _)); refine blk_put (cs := #[.int .i64 ((rd_T118 l0 x7_1).f0), .int .i64 0, .int .i64 0, .int .i64 0]) ?_ 1 _ rfl; (with_reducible repeat (first | refine blk_drewN ?_ _ | refine blk_drew ?_ | refine blk_alloc ?_ _)); refine blk_put (cs := #[.int .i64 0, .int .i64 0, .int .i64 0, .int .i64 0]) ?_ 0 _ rfl; (with_reducible repeat (first | refine blk_drewN ?_ _ | refine blk_drew ?_ | refine blk_alloc ?_ _)); exact BK568.out⟩
       have n1_ : Aside0 (Below w.heap.size w ((((w45.setCell ⟨gb568, 0, none⟩ (.int .i64 ((rd_T118 l0 x7_1).f0))).setCell ⟨gb568, 1, none⟩ (.int .i64 ((rd_T118 l0 x7_1).f1))).setCell ⟨gb568, 2, none⟩ (.int .i64 ((rd_T118 l0 x7_1).f2))).setCell ⟨gb568, 3, none⟩ (.int .i64 ((rd_T118 l0 x7_1).f3)))) := ⟨by repeat (first | (with_reducible first | exact HB.out | apply below_alloc | apply pw_below_drewN | apply below_drew1 | refine below_set ?_ GE568.out) | exact HB.out)⟩
       (try clear BK568)
       (try clear HB)
       generalize ((((w45.setCell ⟨gb568, 0, none⟩ (.int .i64 ((rd_T118 l0 x7_1).f0))).setCell ⟨gb568, 1, none⟩ (.int .i64 ((rd_T118 l0 x7_1).f1))).setCell ⟨gb568, 2, none⟩ (.int .i64 ((rd_T118 l0 x7_1).f2))).setCell ⟨gb568, 3, none⟩ (.int .i64 ((rd_T118 l0 x7_1).f3))) = w47 at n0_ n1_ ⊢
       have BK568 := n0_
       have HB := n1_
       clear n0_ n1_
       have n0_ := Aside0.mk (blk_drew BK568.out)
       have n1_ := Aside0.mk (below_drew1 HB.out)
       clear BK568
       clear HB
       have BK568 := n0_
       have HB := n1_
       clear n0_ n1_
       have hq0_ : w47.cell? ⟨gb568, 0, none⟩ = some (.int .i64 ((rd_T118 l0 x7_1).f0)) := (blk_cell BK568.out 0).trans rfl
       have hq1_ : w47.cell? ⟨gb568, 1, none⟩ = some (.int .i64 ((rd_T118 l0 x7_1).f1)) := (blk_cell BK568.out 1).trans rfl
       have hq2_ : w47.cell? ⟨gb568, 2, none⟩ = some (.int .i64 ((rd_T118 l0 x7_1).f2)) := (blk_cell BK568.out 2).trans rfl
       have hq3_ : w47.cell? ⟨gb568, 3, none⟩ = some (.int .i64 ((rd_T118 l0 x7_1).f3)) := (blk_cell BK568.out 3).trans rfl
       go_quiet ((first | (go_at_call 82; apply Calls.quiet_of; ((with_reducible refine (impl_InRange.calls ((rd_T118 l0 x7_1).f0) 0 2000 false _ A5.out).mono ?_); exact fun _ _ h_ => ⟨h_.1, h_.2.out⟩))))
       have nBK568_ := Aside0.mk (blk_drewN (w := w47) BK568.out nq)
       have nHB_ := Aside0.mk (pw_below_drewN (W := w47) ⟨HB.out.os, HB.out.tape, HB.out.output, HB.out.size, HB.out.block⟩ nq)
       clear BK568 HB hq0_ hq1_ hq2_ hq3_
       have BK568 := nBK568_
       have HB := nHB_
       clear nBK568_ nHB_
       generalize w47.drewN nq = w48 at BK568 HB ⊢
       try go_wp2
       go_ret
       exact ⟨by first | rfl | (simp [errW_none, errW_some] <;> rfl) | (simp [*, errW_none, errW_some] <;> rfl), by repeat (first | (with_reducible first | exact HB.out | apply below_alloc | apply pw_below_drewN | apply below_drew1 | refine below_set ?_ GE568.out) | exact HB.out)⟩
     ·
      rw [if_neg c4] at H
      exact absurd H (by simp)
    ·
     rw [if_neg c3] at H
     exact absurd H (by simp)
   ·
    rw [if_neg c2] at H
    have c2b0 : decide (x7_1 < (l0.length : Int)) = false := decide_eq_false c2
    clear c2
    obtain rfl := Option.some.inj H
    go_wp2
    go_ret
    exact ⟨by first | rfl | (simp [errW_none, errW_some] <;> rfl) | (simp [*, errW_none, errW_some] <;> rfl), by repeat (first | (with_reducible first | exact HB.out | apply below_alloc | apply pw_below_drewN | apply below_drew1) | exact HB.out)⟩

end Go.Proofs.Ytiophiipmgpaeaa.F

-- Written for this claim by the kit's print.py out of the translation, called by wip/tools/fprint.py. Lean checks it.
namespace Go.Proofs.Ytiophiipmgpaeaa.F
open Go.RowKit Go.Proofs.YtiophiipmgpaeaaW.PrintWords Go.Proofs.YtiophiipmgpaeaaW.PrintLast Go.Proofs.YtiophiipmgpaeaaW.PrintMore
attribute [local go_sem] max2_int min2_int max_two min_two max_three min_three max_four min_four   -- for this text's walks alone
set_option linter.unusedVariables false
set_option linter.unusedSimpArgs false

/-! ### impl_Event_136: function 136 -/
def impl_Event_136.f (l0 : List (S118)) : Option ((List (S118))) := (some (([] : List (S118)) : List (S118))).bind fun y575 => (if y575.length + l0.length < 4398046511104 then (some (y575 ++ l0)) else (none))
set_option maxHeartbeats 8000000 in
set_option maxRecDepth 100000 in
theorem impl_Event_136.calls (A0 : Option Addr) (c0 : Nat) (l0 : List (S118)) (r : List (S118)) (w : World) (hr0 : Kd.C k118 w A0 l0.length l0) (hc0 : l0.length ≤ c0) (h : impl_Event_136.f l0 = some r) :
  Calls Try.prog 136 #[.slice A0 l0.length c0] w fun e w' => ∃ v0_ : Value, e = .returned (v0_) ∧ Kd.R k118 118 w' w.heap.size (fun _ => True) v0_ r ∧ Below w.heap.size w w' := by
 have HR0 := Aside0.mk hr0
 have HC0 := Aside0.mk hc0
 clear hr0 hc0
 have HB := Aside0.mk (Below.refl w.heap.size w)
 have H : ((some (([] : List (S118)) : List (S118))).bind fun y575 => (if y575.length + l0.length < 4398046511104 then (some (y575 ++ l0)) else (none))) = some r := h
 clear h
 obtain ⟨y575, hy575⟩ : ∃ y_ : List (S118), y_ = (([] : List (S118))) := ⟨_, rfl⟩
 replace H : (if y575.length + l0.length < 4398046511104 then (some (y575 ++ l0)) else (none)) = some r := by first | (rw [hy575]; with_reducible exact H) | (have H2_ := (Option.bind_some _ _).symm.trans H; rw [hy575]; with_reducible exact H2_) | (have H2_ := (Option.bind_some _ _).symm.trans H; with_reducible exact H2_) | with_reducible exact H | (rw [hy575]; exact H) | exact H
 have Ny575 := Aside0.mk hy575
 clear hy575
 by_cases c2 : y575.length + l0.length < 4398046511104
 ·
  rw [if_pos c2] at H
  have LMc2 := Aside0.mk c2
  clear c2
  obtain ⟨y578, hy578⟩ : ∃ y_ : List (S118), y_ = (y575 ++ l0) := ⟨_, rfl⟩
  replace H : (some y578) = some r := by first | (rw [hy578]; with_reducible exact H) | (have H2_ := (Option.bind_some _ _).symm.trans H; rw [hy578]; with_reducible exact H2_) | (have H2_ := (Option.bind_some _ _).symm.trans H; with_reducible exact H2_) | with_reducible exact H | (rw [hy578]; exact H) | exact H
  have Ny578 := Aside0.mk hy578
  clear hy578
  obtain rfl := Option.some.inj H
  go_enter Try.func136, Try.ntmps136
  go_wp2_with (first | ((with_reducible refine gate_dst (N := 3) rfl ?_); refine Kd.R_lit k118 _ 118 ?hg (N := 3) ?hd (xs := ([] : List (S118))) (inner := []) (ok := fun _ => True) (okp := fun _ => True) ?hr ?hp (fun _ hk => hk) trivial (Below.refl _ _) (Nat.le_refl _) (by simp) ?_; (case hd => rfl); (case hg => rfl); (case hr => first | (go_simp; done) | (go_simp; rfl)); (case hp => exact (Reps.none _ _)); intro v576 w3 ho4 hb hg_ hnew_; clear hg_ hnew_; (first | rw [← Ny575.out] at ho4 | (simp only [Int.reduceToNat] at ho4; rw [← Ny575.out] at ho4)); have n0_ := Aside0.mk (Kd.R_lower ho4 (below_size (by repeat (first | (with_reducible first | exact HB.out | apply below_alloc | apply pw_below_drewN | apply below_drew1) | exact HB.out)))); have n1_ := Aside0.mk (below_step (by repeat (first | (with_reducible first | exact HB.out | apply below_alloc | apply pw_below_drewN | apply below_drew1) | exact HB.out)) hb); clear HB; have HO577 := n0_; have HB := n1_; clear n0_ n1_; clear hb ho4) | ((with_reducible refine gate_builtin (b := .append) (xs := #[.tmp 3, .tmp 4]) rfl ?_); at_builtin; refine Kd.R_append_rows k118 (w0 := w) w.heap.size rfl (.tmp 3) (.tmp 4) 48 118 (.agg #[(.int .i64 0), (.int .i64 0), (.int .i64 0), (.int .i64 0)]) 32 rfl Try.underlying48 info118 rfl (by decide) (by omega) v576 y575 l0 _ _ _ (fun _ => True) (fun _ => False) rfl rfl ?aO ?aR (fun _ _ h => h) (fun _ h => h.elim) ?aF ?aB ?aS ?aL ?_; (case aR => repeat (first | exact (Kd.C_below HR0.out HB.out) | (with_reducible refine Kd.C_alloc ?_ _) | (with_reducible refine Kd.C_drewN ?_ _) | (with_reducible refine Kd.C_drew ?_))); (case aB => exact (by repeat (first | (with_reducible first | exact HB.out | apply below_alloc | apply pw_below_drewN | apply below_drew1) | exact HB.out))); (case aF => exact (fun _ _ => trivial)); (case aO => exact (by (with_reducible repeat (first | apply Kd.R_alloc | apply Kd.R_drewN | apply Kd.R_drew)); exact HO577.out)); (case aS => exact (below_size (by repeat (first | (with_reducible first | exact HB.out | apply below_alloc | apply pw_below_drewN | apply below_drew1) | exact HB.out)))); (case aL => have := LMc2.out; omega); intro v579 w5 ho hb hg hat; rw [← Ny578.out] at ho; have n0_ := Aside0.mk (hb); have n1_ := Aside0.mk (ho); clear HB; clear HO577; have HB := n0_; have HO580 := n1_; clear n0_ n1_; clear ho hb hg hat))
  go_ret
  exact ⟨_, by first | rfl | (simp [errW_none, errW_some] <;> rfl) | (simp [*, errW_none, errW_some] <;> rfl), by (with_reducible repeat (first | apply Kd.R_alloc | apply Kd.R_drewN | apply Kd.R_drew)); exact HO580.out, by repeat (first | (with_reducible first | exact HB.out | apply below_alloc | apply pw_below_drewN | apply below_drew1) | exact HB.out)⟩
 ·
  rw [if_neg c2] at H
  exact absurd H (by simp)

end Go.Proofs.Ytiophiipmgpaeaa.F

-- Written for this claim by the kit's print.py out of the translation, called by wip/tools/fprint.py. Lean checks it.
namespace Go.Proofs.Ytiophiipmgpaeaa.F
open Go.RowKit Go.Proofs.YtiophiipmgpaeaaW.PrintWords Go.Proofs.YtiophiipmgpaeaaW.PrintLast Go.Proofs.YtiophiipmgpaeaaW.PrintMore
attribute [local go_sem] max2_int min2_int max_two min_two max_three min_three max_four min_four   -- for this text's walks alone
set_option linter.unusedVariables false
set_option linter.unusedSimpArgs false

/-! ### impl_VoiceOf: function 98 -/
-- LIKE spec_VoiceOf
-- ROUNDS no
-- IMPORT Derived.Says
-- IMPORT Derived.Shelf.Abstract
-- IMPORT Derived.Lib.SliceRun
-- NEEDS impl.clone[impl.Event]
set_option maxHeartbeats 8000000 in
set_option maxRecDepth 100000 in
theorem vo_pred (a1 : Int) (gb : Nat) (x : S118) (w : World) (hbox : w.heap[gb]? = some (.cells #[.int .i64 a1] 3 (0, 0))) :
  Calls Try.prog 137 #[.agg #[.int .i64 x.f0, .int .i64 x.f1, .int .i64 x.f2, .int .i64 x.f3], .pointer (some ⟨gb, 0, none⟩)] w fun e w' => e = .returned (.bool (x.f3 != a1)) ∧ Below w.heap.size w w' := by
 have hc : w.cell? ⟨gb, 0, none⟩ = some (.int .i64 a1) := (blk_cell hbox 0).trans rfl
 have hlt : gb < w.heap.size := blk_lt hbox
 have hne : gb ≠ w.heap.size := by omega
 clear hbox
 go_enter Try.func137, Try.ntmps137
 go_wp2
 all_goals (go_ret; exact ⟨by simp_all, (Below.refl _ w).alloc (Nat.le_refl _) _⟩)

/-- Not of the voice. -/
def notV (a1 : Int) (x : S118) : Bool := x.f3 != a1
/-- Where the first event of another voice stands. -/
def voIdx (a1 : Int) (l : List S118) : Int := if l.findIdx (notV a1) < l.length then ((l.findIdx (notV a1) : Nat) : Int) else -1
theorem rdV (l : List S118) (i : Int) (h0 : 0 ≤ i) (h1 : i.toNat < l.length) : rd_T118 l i = l[i.toNat] := by
 unfold rd_T118
 rw [List.getD_eq_getElem?_getD, List.getElem?_eq_getElem h1]
 rfl
set_option maxHeartbeats 8000000 in
set_option maxRecDepth 100000 in
theorem vo_index (a1 : Int) (gb : Nat) (A : Option Addr) (c : Nat) (l : List S118) (w : World) (hC : Kd.C k118 w A l.length l) (hbig : l.length ≤ 9223372036854775807) (hbox : w.heap[gb]? = some (.cells #[.int .i64 a1] 3 (0, 0))) :
  Calls Try.prog 164 #[.slice A l.length c, .func (.func 137) #[] #[.pointer (some ⟨gb, 0, none⟩)]] w fun e w' => e = .returned (.int .i64 (voIdx a1 l)) ∧ Below w.heap.size w w' := by
 have eg : ∀ args w, (callFunc 137 args).run Try.prog w = .ok (.enter 137 args) w := enters_of Try.func137 (by kernel_rfl) rfl
 have HC := Aside0.mk hC
 have HX := Aside0.mk hbox
 clear hC hbox
 have HB := Aside0.mk (Below.refl w.heap.size w)
 go_enter Try.func164, Try.ntmps164
 go_wp2
 go_loopg [5, 8] l.length (fun gg _ s8 wr => ∃ i : Int, s8 = .int .i64 i ∧ Aside0 (0 ≤ i ∧ i ≤ l.length ∧ l.length - i.toNat ≤ gg) ∧ Aside0 (Below w.heap.size w wr) ∧ Aside0 (∀ j (h : j < l.length), j < i.toNat → notV a1 l[j] = false))
 case atStart => exact ⟨0, by first | rfl | simp, ⟨by omega, by omega, by omega⟩, HB, ⟨fun j h h' => absurd h' (by simp)⟩⟩
 case round =>
  clear HB
  obtain ⟨i, rfl, HI, HB, HN⟩ := hrel
  obtain ⟨h0, h1, hg⟩ := HI.out
  clear HI
  by_cases hlt : i < (l.length : Int)
  ·
   have hltn : i.toNat < l.length := by omega
   have hb0 : decide (i < (l.length : Int)) = true := decide_eq_true hlt
   obtain ⟨ad, e, hx0, hx1, hx2, hx3⟩ := at_T118 (Kd.C_below HC.out HB.out) i h0 hlt
   cases e
   have HG := Aside0.mk (And.intro h0 (And.intro h1 hg))
   have HL := Aside0.mk (And.intro hlt hltn)
   replace h0 := eq_true h0
   replace hlt := eq_true hlt
   clear h1 hg hltn
   have hbx := blk_below HX.out HB.out
   have hcall := vo_pred a1 gb (rd_T118 l i) wr hbx
   clear hbx
   generalize hy : rd_T118 l i = y at hcall hx0 hx1 hx2 hx3
   have HY := Aside0.mk hy
   clear hy
   cases hq : (y.f3 != a1) with
   | true =>
    rw [hq] at hcall
    go_wp2_with (go_at_fn 137; refine hcall.mono ?_; rintro e w' ⟨rfl, hb'⟩)
    go_ret
    refine ⟨?_, below_step HB.out hb'⟩
    have hltn := HL.out.2
    have e1 : l.findIdx (notV a1) = i.toNat := by
     rw [List.findIdx_eq hltn]
     refine ⟨?_, fun j hj => HN.out j (by omega) hj⟩
     rw [← rdV l i HG.out.1 hltn, HY.out]
     exact hq
    have := HG.out.1
    unfold voIdx
    rw [e1, if_pos hltn, Int.toNat_of_nonneg HG.out.1]
    rfl
   | false =>
    rw [hq] at hcall
    go_wp2_with (go_at_fn 137; refine hcall.mono ?_; rintro e w' ⟨rfl, hb'⟩)
    go_roundg (l.length - (i + 1).toNat)
    case measure => have := HG.out; have := HL.out; omega
    case rel =>
     have g := HG.out
     have g2 := HL.out
     have ew : wrap64 (i + 1) = i + 1 := by unfold wrap64; omega
     refine ⟨wrap64 (i + 1), (by first | rfl | (simp; done) | (simp [*]; done)), ⟨by omega, by omega, by omega⟩, ⟨below_step HB.out hb'⟩, ⟨fun j h hj => ?_⟩⟩
     rw [ew] at hj
     by_cases e : j = i.toNat
     ·
      subst e
      rw [← rdV l i g.1 h, HY.out]
      exact hq
     ·
      exact HN.out j h (by omega)
  ·
   have hb0 : decide (i < (l.length : Int)) = false := decide_eq_false hlt
   have hi : i.toNat = l.length := by omega
   clear hg h0 h1
   go_wp2
   go_ret
   refine ⟨?_, HB.out⟩
   have e1 : l.findIdx (notV a1) = l.length := by
    rw [List.findIdx_eq_length]
    intro x hx
    obtain ⟨j, hj, rfl⟩ := List.getElem_of_mem hx
    exact HN.out j hj (by omega)
   unfold voIdx
   rw [e1, if_neg (by omega)]
   rfl
theorem setCells_app (go : Nat) : ∀ (us bs : List Value) (o : Nat) (w : World), w.setCells go o (us ++ bs) = (w.setCells go o us).setCells go (o + us.length) bs
 | [], bs, o, w => rfl
 | a :: us, bs, o, w => by
  show (w.setCell ⟨go, o, none⟩ a).setCells go (o + 1) (us ++ bs) = ((w.setCell ⟨go, o, none⟩ a).setCells go (o + 1) us).setCells go (o + (a :: us).length) bs
  rw [setCells_app go us bs (o + 1), List.length_cons, show o + 1 + us.length = o + (us.length + 1) by omega]
/-- A row of events, cleared from some element on. -/
theorem R_clear4 {base go cap n : Nat} : ∀ (m i : Nat) (W : World) (x : List S118), i + m = n → Kd.R k118 118 W base (fun _ => True) (.slice (some ⟨go, 0, none⟩) n cap) x →
  Kd.R k118 118 (W.setCells go (i * 4) (List.replicate (m * 4) (.int .i64 0))) base (fun _ => True) (.slice (some ⟨go, 0, none⟩) n cap) (x.take i ++ List.replicate m z118)
 | 0, i, W, x, hi, h => by
  have hx := (Kd.R_reads' h).1
  have e : x.take i ++ List.replicate 0 z118 = x := by rw [List.replicate_zero, List.append_nil, List.take_of_length_le (by omega)]
  rw [e]
  simpa [World.setCells] using h
 | m + 1, i, W, x, hi, h => by
  have hx := (Kd.R_reads' h).1
  have e4 : List.replicate ((m + 1) * 4) (Value.int .i64 0) = [.int .i64 0, .int .i64 0, .int .i64 0, .int .i64 0] ++ List.replicate (m * 4) (.int .i64 0) := by
   rw [show (m + 1) * 4 = m * 4 + 1 + 1 + 1 + 1 by omega]
   simp [List.replicate_succ]
  rw [e4, setCells_app]
  obtain ⟨ce, hcl, hM, hcc, hfr⟩ := Kd.R_elem h z118 (i : Int) (by omega) (by omega)
  have HP := Kd.R_seg (okp := fun _ => False) h (i : Int) (by omega) (by omega) (seg := [.int .i64 0, .int .i64 0, .int .i64 0, .int .i64 0]) (j := 0) hcl hcc (show 4 ≤ 4 from by decide) (x' := z118) (by
   have e5 : ce.drop (0 + [Value.int .i64 0, .int .i64 0, .int .i64 0, .int .i64 0].length) = [] := List.drop_of_length_le (by rw [hcl]; exact Nat.le_refl _)
   rw [e5]
   exact k118_mkM W base (fun _ => False) z118) (fun _ hk => False.elim hk)
  have H1 := HP.1
  simp only [Int.toNat_natCast, Nat.add_zero] at H1
  have H2 := R_clear4 m (i + 1) _ (x.set i z118) (by omega) H1
  have e6 : (x.set i z118).take (i + 1) ++ List.replicate m z118 = x.take i ++ List.replicate (m + 1) z118 := by
   rw [List.replicate_succ, List.take_succ_eq_append_getElem (by simp; omega)]
   simp [List.take_set_of_le]
  rw [e6, show (i + 1) * 4 = i * 4 + 4 by omega] at H2
  exact H2
set_option maxRecDepth 100000 in
/-- The builtin clear, over a row of events. -/
theorem run_clear4 (W : World) (ty go off m cap : Nat) (hm : 0 < m) (hc : ∀ j, j < m * 4 → (W.cell? ⟨go, off + j, none⟩).isSome = true) (hf : ∀ j, j < m * 4 → W.frozen? ⟨go, off + j, none⟩ = false) :
  (Builtin.clear_ #[48] ty #[.slice (some ⟨go, off, none⟩) m cap]).run Try.prog W = .ok (.tuple #[]) (W.setCells go off (List.replicate (m * 4) (.int .i64 0))) := by
 have hzc : (Builtin.zeroCells (Value.agg #[.int .i64 0, .int .i64 0, .int .i64 0, .int .i64 0]).cells m).toList = List.replicate (m * 4) (Value.int .i64 0) := by
  have e : (Value.agg #[.int .i64 0, .int .i64 0, .int .i64 0, .int .i64 0]).cells = #[.int .i64 0, .int .i64 0, .int .i64 0, .int .i64 0] := rfl
  rw [e]
  apply List.ext_getElem
  ·
   simp [Builtin.zeroCells]
  ·
   intro i h1 h2
   have h4 : i % 4 < 4 := Nat.mod_lt _ (by decide)
   simp only [Builtin.zeroCells, Array.toList_map, List.getElem_map, List.getElem_replicate]
   simp only [Array.getElem_toList, Array.getElem_range]
   show (#[Value.int .i64 0, .int .i64 0, .int .i64 0, .int .i64 0])[i % 4]! = _
   generalize i % 4 = q at h4
   match q, h4 with
   | 0, _ => rfl
   | 1, _ => rfl
   | 2, _ => rfl
   | 3, _ => rfl
 have hst := run_storeCells_cells (P := Try.prog) go off (List.replicate (m * 4) (.int .i64 0)) 0 W (by simpa using hc) (by simpa using hf) (by intro v hv'; rw [List.eq_of_mem_replicate hv']; rfl)
 simp only [Nat.add_zero] at hst
 obtain ⟨m, rfl⟩ : ∃ k, m = k + 1 := ⟨m - 1, by omega⟩
 simp [Builtin.clear_, run_underlying Try.underlying48, Try.zeroValue118, hzc, hst]
/-- What the loop of DeleteFunc keeps: i events are kept, j are looked at, the rest stand as they stood. -/
structure VoInv (a1 : Int) (l x : List S118) (i j : Nat) : Prop where
 len : x.length = l.length
 lt : i < j
 le : j ≤ l.length
 kept : x.take i = (l.take j).filter (fun y => !notV a1 y)
 rest : x.drop j = l.drop j
theorem VoInv.start {a1 : Int} {l : List S118} (h : l.findIdx (notV a1) < l.length) : VoInv a1 l l (l.findIdx (notV a1)) (l.findIdx (notV a1) + 1) := by
 have hn : ∀ y ∈ l.take (l.findIdx (notV a1)), notV a1 y = false := by
  intro y hy
  obtain ⟨j, hj, rfl⟩ := List.getElem_of_mem hy
  rw [List.length_take] at hj
  rw [List.getElem_take]
  exact List.not_of_lt_findIdx (by omega)
 refine ⟨rfl, Nat.lt_succ_self _, h, ?_, rfl⟩
 rw [List.take_succ_eq_append_getElem h, List.filter_append]
 have e1 : (l.take (l.findIdx (notV a1))).filter (fun y => !notV a1 y) = l.take (l.findIdx (notV a1)) := by
  rw [List.filter_eq_self]
  intro y hy
  simp [hn y hy]
 have e2 : notV a1 l[l.findIdx (notV a1)] = true := List.findIdx_getElem
 rw [e1]
 simp [e2]
theorem VoInv.read {a1 : Int} {l x : List S118} {i j : Nat} (h : VoInv a1 l x i j) (hj : j < l.length) : x[j]'(by have := h.len; omega) = l[j] := by
 have hx : j < x.length := by have := h.len; omega
 have e := h.rest
 rw [List.drop_eq_getElem_cons hx, List.drop_eq_getElem_cons hj] at e
 exact (List.cons.inj e).1
theorem VoInv.keep {a1 : Int} {l x : List S118} {i j : Nat} (h : VoInv a1 l x i j) (hj : j < l.length) (hq : notV a1 l[j] = false) : VoInv a1 l (x.set i l[j]) (i + 1) (j + 1) := by
 have hx : j < x.length := by have := h.len; omega
 have hlt := h.lt
 refine ⟨by simp [h.len], by omega, hj, ?_, ?_⟩
 ·
  rw [List.take_succ_eq_append_getElem (by simp; omega), List.take_succ_eq_append_getElem hj, List.filter_append, ← h.kept]
  simp [hq, List.take_set_of_le]
 ·
  have e := h.rest
  rw [List.drop_eq_getElem_cons hx, List.drop_eq_getElem_cons hj] at e
  rw [List.drop_set_of_lt (by omega)]
  exact (List.cons.inj e).2
theorem VoInv.skip {a1 : Int} {l x : List S118} {i j : Nat} (h : VoInv a1 l x i j) (hj : j < l.length) (hq : notV a1 l[j] = true) : VoInv a1 l x i (j + 1) := by
 have hx : j < x.length := by have := h.len; omega
 have hlt := h.lt
 refine ⟨h.len, by omega, hj, ?_, ?_⟩
 ·
  rw [h.kept, List.take_succ_eq_append_getElem hj, List.filter_append]
  simp [hq]
 ·
  have e := h.rest
  rw [List.drop_eq_getElem_cons hx, List.drop_eq_getElem_cons hj] at e
  exact (List.cons.inj e).2
theorem VoInv.done {a1 : Int} {l x : List S118} {i : Nat} (h : VoInv a1 l x i l.length) : x.take i = l.filter (fun y => !notV a1 y) := by
 have := h.kept
 rwa [List.take_length] at this
theorem vo_none {a1 : Int} {l : List S118} (h : ¬ l.findIdx (notV a1) < l.length) : l.filter (fun y => !notV a1 y) = l := by
 rw [List.filter_eq_self]
 intro y hy
 have h1 : l.findIdx (notV a1) = l.length := Nat.le_antisymm List.findIdx_le_length (by omega)
 rw [List.findIdx_eq_length] at h1
 simp [h1 y hy]
theorem below_cells {B go : Nat} {w : World} (hg : B ≤ go) : ∀ (vs : List Value) (o : Nat) (W : World), Below B w W → Below B w (W.setCells go o vs)
 | [], _, _, h => h
 | v :: vs, o, W, h => below_cells hg vs (o + 1) _ (h.setCell hg v)
theorem R_some4 {base go cap n : Nat} {W : World} {x : List S118} (h : Kd.R k118 118 W base (fun _ => True) (.slice (some ⟨go, 0, none⟩) n cap) x) (q : Nat) (hq : q < n * 4) : (W.cell? ⟨go, q, none⟩).isSome = true ∧ W.frozen? ⟨go, q, none⟩ = false := by
 obtain ⟨ce, hcl, hM, hcc, hfr⟩ := Kd.R_elem h z118 ((q / 4 : Nat) : Int) (by omega) (by omega)
 rw [Int.toNat_natCast] at hcc hfr
 have hl : q % 4 < ce.length := by rw [hcl]; exact Nat.mod_lt _ (by decide)
 have e : q / 4 * k118.sz + q % 4 = q := by show q / 4 * 4 + q % 4 = q; omega
 have h1 := hcc (q % 4) _ (List.getElem?_eq_getElem hl)
 have h2 := hfr (q % 4)
 rw [e] at h1 h2
 rw [h1]
 exact ⟨rfl, h2⟩
set_option maxHeartbeats 8000000 in
set_option maxRecDepth 100000 in
theorem vo_delete (a1 : Int) (gb base : Nat) (v : Value) (l : List S118) (w : World) (HR : Kd.R k118 118 w base (fun _ => True) v l) (hbox : w.heap[gb]? = some (.cells #[.int .i64 a1] 3 (0, 0))) (hbig : l.length ≤ 4398046511104) (hbs : base ≤ w.heap.size) :
  Calls Try.prog 135 #[v, .func (.func 137) #[] #[.pointer (some ⟨gb, 0, none⟩)]] w fun e w' => ∃ v0_ : Value, e = .returned v0_ ∧ Kd.R k118 118 w' base (fun _ => True) v0_ (l.filter (fun y => !notV a1 y)) ∧ Below base w w' := by
 obtain ⟨A, c, rfl⟩ := Kd.R_slice HR
 have hC := (Kd.R_reads' HR).2.2
 have hcap := (Kd.R_reads' HR).2.1
 have hIF := vo_index a1 gb A c l w hC (by omega) hbox
 have eg : ∀ args w, (callFunc 137 args).run Try.prog w = .ok (.enter 137 args) w := enters_of Try.func137 (by kernel_rfl) rfl
 by_cases hk : l.findIdx (notV a1) < l.length
 ·
  obtain ⟨k0, hk0⟩ : ∃ k0, k0 = l.findIdx (notV a1) := ⟨_, rfl⟩
  have hinv := VoInv.start hk
  have e1 : voIdx a1 l = (k0 : Int) := by unfold voIdx; rw [if_pos hk, hk0]
  rw [← hk0] at hinv hk
  rw [e1] at hIF
  obtain ⟨go, co, eo, hgb, hgl, cl, hcl⟩ := Kd.R_form HR (by omega)
  cases eo
  have hne0 := Kd.R_ne HR hbox (by decide)
  have hne : gb ≠ go := by intro e; exact hne0 (by rw [e]; rfl)
  have HO := Aside0.mk HR
  have HX := Aside0.mk hbox
  have HI := Aside0.mk hinv
  have HK := Aside0.mk (And.intro hk hcap)
  have NE := Aside0.mk hne
  have GB := Aside0.mk hgb
  have BS := Aside0.mk hbs
  have hm1 : ((k0 : Int) == -1) = false := beq_eq_false_iff_ne.2 (by omega)
  clear HR hbox hinv hC hcl hgl hk hcap hne hne0 hgb hbs e1 hk0
  go_enter Try.func135, Try.ntmps135
  go_wp2_with (go_at_call 164; refine hIF.mono ?_; rintro e w1 ⟨rfl, hb1⟩)
  have HB := Aside0.mk hb1
  clear hb1
  go_loopg [5, 6, 7] l.length (fun gg s5 s6 _ wr => ∃ (x : List S118) (i j : Int), s5 = .int .i64 i ∧ s6 = .int .i64 j ∧ Aside0 (0 ≤ i ∧ 0 ≤ j ∧ l.length - j.toNat ≤ gg) ∧ Aside0 (VoInv a1 l x i.toNat j.toNat) ∧ Aside0 (Kd.R k118 118 wr base (fun _ => True) (.slice (some ⟨go, 0, none⟩) l.length c) x) ∧ Aside0 (wr.heap[gb]? = some (.cells #[.int .i64 a1] 3 (0, 0))) ∧ Aside0 (Below base w wr) ∧ Aside0 (base ≤ wr.heap.size))
  case atStart =>
   have ew : wrap64 ((k0 : Int) + 1) = (k0 : Int) + 1 := by have := HK.out; unfold wrap64; omega
   refine ⟨l, (k0 : Int), wrap64 ((k0 : Int) + 1), rfl, (by first | rfl | (simp; done) | (simp [*]; done)), ⟨by omega, by omega, by omega⟩, ⟨?_⟩, ⟨Kd.R_below HO.out HB.out⟩, ⟨blk_below HX.out HB.out⟩, ⟨HB.out.mono BS.out⟩, ⟨Nat.le_trans BS.out (below_size HB.out)⟩⟩
   have := HI.out
   rw [ew, show ((k0 : Int) + 1).toNat = k0 + 1 by omega, Int.toNat_natCast]
   exact this
  case round =>
   clear HB HO HX HI hIF hm1
   obtain ⟨x, i, j, rfl, rfl, HG, HI, HO, HX, HB, BR⟩ := hrel
   have hxl := HI.out.len
   by_cases hlt : j < (l.length : Int)
   ·
    have hjn : j.toNat < l.length := by have := HG.out; omega
    have hb0 : decide (j < (l.length : Int)) = true := decide_eq_true hlt
    have hrd := HI.out.read hjn
    obtain ⟨ad, e, hx0, hx1, hx2, hx3⟩ := at_T118 (Kd.R_reads' HO.out).2.2 j HG.out.2.1 (by omega)
    cases e
    (first | simp only [add_plain] at hx0 | skip)
    (first | simp only [add_plain] at hx1 | skip)
    (first | simp only [add_plain] at hx2 | skip)
    (first | simp only [add_plain] at hx3 | skip)
    have hri : 0 ≤ i ∧ i < (l.length : Int) := by have := HI.out.lt; have := HI.out.le; have := HG.out; omega
    have hpi := eq_true hri.1
    have hqi := eq_true hri.2
    have hpj := eq_true HG.out.2.1
    have hqj := eq_true hlt
    have hbI : decide (0 ≤ i) = true := decide_eq_true hri.1
    have hbI2 : decide (i < (l.length : Int)) = true := decide_eq_true hri.2
    rw [rdV x j HG.out.2.1 (by omega), hrd] at hx0 hx1 hx2 hx3
    have HL := Aside0.mk (And.intro hlt hjn)
    have HRI := Aside0.mk hri
    clear hlt hri hrd hxl
    obtain ⟨y, hy⟩ : ∃ y, y = l[j.toNat] := ⟨_, rfl⟩
    rw [← hy] at hx0 hx1 hx2 hx3
    have HY : Aside0 (∃ h : j.toNat < l.length, y = l[j.toNat]) := ⟨⟨hjn, hy⟩⟩
    clear hy hjn
    have HW := Aside0.mk (Below.refl wr.heap.size wr)
    cases hq : (y.f3 != a1) with
    | true =>
     go_wp2_with (first | ((with_reducible refine gate_dst (N := 7) rfl ?_); refine box_event ?hg (N := 7) ?hd (cs := #[.int .i64 0, .int .i64 0, .int .i64 0, .int .i64 0]) (t := 118) ?hr ?_; (case hd => rfl); (case hg => rfl); (case hr => first | (go_simp; done) | (go_simp; rfl)); intro gv hg w3 hbv hb; have GV := Aside0.mk ((by rw [hg]; exact (below_size (by repeat (first | (with_reducible first | exact HW.out | apply below_alloc | apply pw_below_drewN | apply below_drew1) | exact HW.out))) : wr.heap.size ≤ gv)); have n0_ := Aside0.mk (below_step (by repeat (first | (with_reducible first | exact HW.out | apply below_alloc | apply pw_below_drewN | apply below_drew1) | exact HW.out)) hb); clear HW; have HW := n0_; clear n0_; have BV := Aside0.mk hbv; have hcz0 : w3.cell? ⟨gv, 0, none⟩ = some (.int .i64 0) := (blk_cell hbv 0).trans rfl; have hcz1 : w3.cell? ⟨gv, 1, none⟩ = some (.int .i64 0) := (blk_cell hbv 1).trans rfl; have hcz2 : w3.cell? ⟨gv, 2, none⟩ = some (.int .i64 0) := (blk_cell hbv 2).trans rfl; have hcz3 : w3.cell? ⟨gv, 3, none⟩ = some (.int .i64 0) := (blk_cell hbv 3).trans rfl; have hfz0 := blk_frozen hbv 0; have hfz1 := blk_frozen hbv 1; have hfz2 := blk_frozen hbv 2; have hfz3 := blk_frozen hbv 3; clear hb hg hbv) | ((with_reducible refine gate_store (t := 118) (p := 7) rfl ?_); refine store_event (t := 118) (p := 7) (v := ?vo) (w1 := ((((w3.setCell ⟨gv, 0, none⟩ (.int .i64 y.f0)).setCell ⟨gv, 1, none⟩ (.int .i64 y.f1)).setCell ⟨gv, 2, none⟩ (.int .i64 y.f2)).setCell ⟨gv, 3, none⟩ (.int .i64 y.f3))) ?hg ?ho ?hn ?hr ?_; (case ho => rfl); (case hg => rfl); (case hn => rfl); (case hr => first | (go_simp; done) | (go_simp; rfl)); intro w4 hw; have n0_ : Aside0 (Below wr.heap.size wr w4) := ⟨by rw [hw]; exact below_set (below_set (below_set (below_set HW.out GV.out) GV.out) GV.out) GV.out⟩; have n1_ : Aside0 (w4.heap[gv]? = some (.cells #[.int .i64 y.f0, .int .i64 y.f1, .int .i64 y.f2, .int .i64 y.f3] 118 (0, 0))) := ⟨by rw [hw]; exact blk_put (blk_put (blk_put (blk_put BV.out 0 _ rfl) 1 _ rfl) 2 _ rfl) 3 _ rfl⟩; clear HW; clear BV; have HW := n0_; have BV := n1_; clear n0_ n1_; clear hcz0 hcz1 hcz2 hcz3 hfz0 hfz1 hfz2 hfz3 hw; have hcv0 : w4.cell? ⟨gv, 0, none⟩ = some (.int .i64 y.f0) := (blk_cell BV.out 0).trans rfl; have hcv1 : w4.cell? ⟨gv, 1, none⟩ = some (.int .i64 y.f1) := (blk_cell BV.out 1).trans rfl; have hcv2 : w4.cell? ⟨gv, 2, none⟩ = some (.int .i64 y.f2) := (blk_cell BV.out 2).trans rfl; have hcv3 : w4.cell? ⟨gv, 3, none⟩ = some (.int .i64 y.f3) := (blk_cell BV.out 3).trans rfl) | (go_at_fn 137; (refine (vo_pred a1 gb y _ ?hb).mono ?_); (case hb => (with_reducible repeat (first | refine blk_drewN ?_ _ | refine blk_drew ?_ | refine blk_alloc ?_ _)); exact blk_below HX.out HW.out); (rw [hq]); rintro e w5 ⟨rfl, hb⟩; have n0_ := Aside0.mk (below_step (by repeat (first | (with_reducible first | exact HW.out | apply below_alloc | apply pw_below_drewN | apply below_drew1) | exact HW.out)) hb); have n1_ := Aside0.mk (blk_below (by (with_reducible repeat (first | refine blk_drewN ?_ _ | refine blk_drew ?_ | refine blk_alloc ?_ _)); exact BV.out) hb); clear HW; clear BV; have HW := n0_; have BV := n1_; clear n0_ n1_; clear hcv0 hcv1 hcv2 hcv3 hb))
     go_roundg (l.length - (j + 1).toNat)
     case measure => have := HG.out; have := HL.out; omega
     case rel =>
      have g := HG.out
      have g2 := HL.out
      have ew : wrap64 (j + 1) = j + 1 := by unfold wrap64; omega
      refine ⟨x, i, wrap64 (j + 1), (by first | rfl | (simp; done) | (simp [*]; done)), (by first | rfl | (simp; done) | (simp [*]; done)), ⟨by omega, by omega, by omega⟩, ⟨?_⟩, ⟨Kd.R_below HO.out (by repeat (first | (with_reducible first | exact HW.out | apply below_alloc | apply pw_below_drewN | apply below_drew1) | exact HW.out))⟩, ⟨blk_below HX.out (by repeat (first | (with_reducible first | exact HW.out | apply below_alloc | apply pw_below_drewN | apply below_drew1) | exact HW.out))⟩, ⟨below_then HB.out BR.out (by repeat (first | (with_reducible first | exact HW.out | apply below_alloc | apply pw_below_drewN | apply below_drew1) | exact HW.out))⟩, ⟨Nat.le_trans BR.out (below_size (by repeat (first | (with_reducible first | exact HW.out | apply below_alloc | apply pw_below_drewN | apply below_drew1) | exact HW.out)))⟩⟩
      rw [ew, show (j + 1).toNat = j.toNat + 1 by omega]
      obtain ⟨hj, hy⟩ := HY.out
      exact HI.out.skip hj (by rw [← hy]; exact hq)
    | false =>
     go_wp2_with (first | ((with_reducible refine gate_dst (N := 7) rfl ?_); refine box_event ?hg (N := 7) ?hd (cs := #[.int .i64 0, .int .i64 0, .int .i64 0, .int .i64 0]) (t := 118) ?hr ?_; (case hd => rfl); (case hg => rfl); (case hr => first | (go_simp; done) | (go_simp; rfl)); intro gv hg w3 hbv hb; have GV := Aside0.mk ((by rw [hg]; exact (below_size (by repeat (first | (with_reducible first | exact HW.out | apply below_alloc | apply pw_below_drewN | apply below_drew1) | exact HW.out))) : wr.heap.size ≤ gv)); have n0_ := Aside0.mk (below_step (by repeat (first | (with_reducible first | exact HW.out | apply below_alloc | apply pw_below_drewN | apply below_drew1) | exact HW.out)) hb); clear HW; have HW := n0_; clear n0_; have BV := Aside0.mk hbv; have hcz0 : w3.cell? ⟨gv, 0, none⟩ = some (.int .i64 0) := (blk_cell hbv 0).trans rfl; have hcz1 : w3.cell? ⟨gv, 1, none⟩ = some (.int .i64 0) := (blk_cell hbv 1).trans rfl; have hcz2 : w3.cell? ⟨gv, 2, none⟩ = some (.int .i64 0) := (blk_cell hbv 2).trans rfl; have hcz3 : w3.cell? ⟨gv, 3, none⟩ = some (.int .i64 0) := (blk_cell hbv 3).trans rfl; have hfz0 := blk_frozen hbv 0; have hfz1 := blk_frozen hbv 1; have hfz2 := blk_frozen hbv 2; have hfz3 := blk_frozen hbv 3; clear hb hg hbv) | ((with_reducible refine gate_store (t := 118) (p := 7) rfl ?_); refine store_event (t := 118) (p := 7) (v := ?vo) (w1 := ((((w3.setCell ⟨gv, 0, none⟩ (.int .i64 y.f0)).setCell ⟨gv, 1, none⟩ (.int .i64 y.f1)).setCell ⟨gv, 2, none⟩ (.int .i64 y.f2)).setCell ⟨gv, 3, none⟩ (.int .i64 y.f3))) ?hg ?ho ?hn ?hr ?_; (case ho => rfl); (case hg => rfl); (case hn => rfl); (case hr => first | (go_simp; done) | (go_simp; rfl)); intro w4 hw; have n0_ : Aside0 (Below wr.heap.size wr w4) := ⟨by rw [hw]; exact below_set (below_set (below_set (below_set HW.out GV.out) GV.out) GV.out) GV.out⟩; have n1_ : Aside0 (w4.heap[gv]? = some (.cells #[.int .i64 y.f0, .int .i64 y.f1, .int .i64 y.f2, .int .i64 y.f3] 118 (0, 0))) := ⟨by rw [hw]; exact blk_put (blk_put (blk_put (blk_put BV.out 0 _ rfl) 1 _ rfl) 2 _ rfl) 3 _ rfl⟩; clear HW; clear BV; have HW := n0_; have BV := n1_; clear n0_ n1_; clear hcz0 hcz1 hcz2 hcz3 hfz0 hfz1 hfz2 hfz3 hw; have hcv0 : w4.cell? ⟨gv, 0, none⟩ = some (.int .i64 y.f0) := (blk_cell BV.out 0).trans rfl; have hcv1 : w4.cell? ⟨gv, 1, none⟩ = some (.int .i64 y.f1) := (blk_cell BV.out 1).trans rfl; have hcv2 : w4.cell? ⟨gv, 2, none⟩ = some (.int .i64 y.f2) := (blk_cell BV.out 2).trans rfl; have hcv3 : w4.cell? ⟨gv, 3, none⟩ = some (.int .i64 y.f3) := (blk_cell BV.out 3).trans rfl) | (go_at_fn 137; (refine (vo_pred a1 gb y _ ?hb).mono ?_); (case hb => (with_reducible repeat (first | refine blk_drewN ?_ _ | refine blk_drew ?_ | refine blk_alloc ?_ _)); exact blk_below HX.out HW.out); (rw [hq]); rintro e w5 ⟨rfl, hb⟩; have n0_ := Aside0.mk (below_step (by repeat (first | (with_reducible first | exact HW.out | apply below_alloc | apply pw_below_drewN | apply below_drew1) | exact HW.out)) hb); have n1_ := Aside0.mk (blk_below (by (with_reducible repeat (first | refine blk_drewN ?_ _ | refine blk_drew ?_ | refine blk_alloc ?_ _)); exact BV.out) hb); clear HW; clear BV; have HW := n0_; have BV := n1_; clear n0_ n1_; clear hcv0 hcv1 hcv2 hcv3 hb; have hcv0 : w5.cell? ⟨gv, 0, none⟩ = some (.int .i64 y.f0) := (blk_cell BV.out 0).trans rfl; have hcv1 : w5.cell? ⟨gv, 1, none⟩ = some (.int .i64 y.f1) := (blk_cell BV.out 1).trans rfl; have hcv2 : w5.cell? ⟨gv, 2, none⟩ = some (.int .i64 y.f2) := (blk_cell BV.out 2).trans rfl; have hcv3 : w5.cell? ⟨gv, 3, none⟩ = some (.int .i64 y.f3) := (blk_cell BV.out 3).trans rfl; have n2_ := Aside0.mk (Kd.R_below HO.out HW.out); clear HO; have HO := n2_; clear n2_; obtain ⟨ce, hclE, hME, hccE, hfrE⟩ := Kd.R_elem HO.out z118 i HRI.out.1 HRI.out.2; obtain rfl := k118_openM hME; have HP := Kd.R_seg (okp := fun _ => False) HO.out i HRI.out.1 HRI.out.2 (seg := [.int .i64 y.f0, .int .i64 y.f1, .int .i64 y.f2, .int .i64 y.f3]) (j := 0) hclE hccE (show 4 ≤ 4 from by decide) (x' := y) (k118_mkM _ _ _ y) (fun _ hk => False.elim hk); have hxe0 := hccE 0 _ rfl; have hxe1 := hccE 1 _ rfl; have hxe2 := hccE 2 _ rfl; have hxe3 := hccE 3 _ rfl; have hfe0 := hfrE 0; have hfe1 := hfrE 1; have hfe2 := hfrE 2; have hfe3 := hfrE 3; (try simp only [show (k118).sz = 4 from rfl, Nat.mul_one, Nat.add_zero] at hxe0 hxe1 hxe2 hxe3 hfe0 hfe1 hfe2 hfe3); clear hclE hccE hfrE hME))
     go_roundg (l.length - (j + 1).toNat)
     case measure => have := HG.out; have := HL.out; omega
     case rel =>
      have g := HG.out
      have g2 := HL.out
      have g3 := HRI.out
      have ew : wrap64 (j + 1) = j + 1 := by unfold wrap64; omega
      have ew2 : wrap64 (i + 1) = i + 1 := by unfold wrap64; omega
      refine ⟨x.set i.toNat y, wrap64 (i + 1), wrap64 (j + 1), (by first | rfl | (simp; done) | (simp [*]; done)), (by first | rfl | (simp; done) | (simp [*]; done)), ⟨by omega, by omega, by omega⟩, ⟨?_⟩, ⟨HP.1⟩, ⟨blk_far (blk_far (blk_far (blk_far (blk_below HX.out HW.out) NE.out _) NE.out _) NE.out _) NE.out _⟩, ⟨((((below_then HB.out BR.out HW.out).setCell GB.out _).setCell GB.out _).setCell GB.out _).setCell GB.out _⟩, ⟨Nat.le_trans BR.out (Nat.le_trans (below_size HW.out) (Nat.le_of_eq (setCells_same go [.int .i64 y.f0, .int .i64 y.f1, .int .i64 y.f2, .int .i64 y.f3] (i.toNat * 4) w5).2.2.2.symm))⟩⟩
      rw [ew, ew2, show (j + 1).toNat = j.toNat + 1 by omega, show (i + 1).toNat = i.toNat + 1 by omega]
      obtain ⟨hj, hy⟩ := HY.out
      have hq2 : notV a1 l[j.toNat] = false := by rw [← hy]; exact hq
      have := HI.out.keep hj hq2
      rw [← hy] at this
      exact this
   ·
    have hje : j.toNat = l.length := by have := HG.out; have := HI.out.le; omega
    have hI := HI.out
    rw [hje] at hI
    have hb0 : decide (j < (l.length : Int)) = false := decide_eq_false hlt
    obtain ⟨i, rfl⟩ := Int.eq_ofNat_of_zero_le HG.out.1
    rw [Int.toNat_natCast] at hI
    have hi : i < l.length := hI.lt
    have hil : i ≤ l.length := Nat.le_of_lt hi
    have hic : i ≤ c := by have := HK.out.2; omega
    have hne : ¬ c = i := by have := HK.out.2; omega
    have hcl : ∀ ty, (Builtin.clear_ #[48] ty #[.slice (some ⟨go, i * 4, none⟩) (l.length - i) (c - i)]).run Try.prog wr = .ok (.tuple #[]) (wr.setCells go (i * 4) (List.replicate ((l.length - i) * 4) (.int .i64 0))) :=
     fun ty => run_clear4 wr ty go (i * 4) (l.length - i) (c - i) (by omega) (fun q hq => (R_some4 HO.out (i * 4 + q) (by omega)).1) (fun q hq => (R_some4 HO.out (i * 4 + q) (by omega)).2)
    have HT := R_clear4 (l.length - i) i wr x (by omega) HO.out
    have HT2 := Kd.R_take (m := i) HT (by rw [List.length_append, List.length_take, List.length_replicate, hxl]; omega)
    have ex : (x.take i ++ List.replicate (l.length - i) z118).take i = l.filter (fun y => !notV a1 y) := by
     rw [List.take_append_of_le_length (by rw [List.length_take, hxl]; omega), List.take_take, Nat.min_self, hI.done]
    rw [ex] at HT2
    have HT3 := Aside0.mk HT2
    clear HT HT2 ex hI
    go_wp2
    go_ret
    exact ⟨_, rfl, HT3.out, below_cells GB.out _ _ _ HB.out⟩
 ·
  have e1 : voIdx a1 l = -1 := by unfold voIdx; rw [if_neg hk]
  rw [e1] at hIF
  have ef := vo_none hk
  have HO := Aside0.mk HR
  have BS := Aside0.mk hbs
  have hm1 : ((-1 : Int) == -1) = true := rfl
  clear HR hbox hC hcap hk e1 hbs
  go_enter Try.func135, Try.ntmps135
  go_wp2_with (go_at_call 164; refine hIF.mono ?_; rintro e w1 ⟨rfl, hb1⟩)
  go_ret
  refine ⟨_, rfl, ?_, hb1.mono BS.out⟩
  rw [ef]
  exact Kd.R_below HO.out hb1
def impl_VoiceOf.f (l0 : List S118) (a1 : Int) : Option (List S118) := if l0.length < 4398046511104 then some (l0.filter (fun y => !notV a1 y)) else none
set_option maxHeartbeats 8000000 in
set_option maxRecDepth 100000 in
theorem impl_VoiceOf.calls (A0 : Option Addr) (c0 : Nat) (l0 : List (S118)) (a1 : Int) (r : List (S118)) (w : World) (hr0 : Kd.C k118 w A0 l0.length l0) (hc0 : l0.length ≤ c0) (h : impl_VoiceOf.f l0 a1 = some r) :
  Calls Try.prog 98 #[.slice A0 l0.length c0, .int .i64 a1] w fun e w' => ∃ v0_ : Value, e = .returned (v0_) ∧ Kd.R k118 118 w' w.heap.size (fun _ => True) v0_ r ∧ Below w.heap.size w w' := by
 have HR0 := Aside0.mk hr0
 have HC0 := Aside0.mk hc0
 clear hr0 hc0
 have HW := Aside0.mk (Below.refl w.heap.size w)
 unfold impl_VoiceOf.f at h
 by_cases hl : l0.length < 4398046511104
 ·
  rw [if_pos hl] at h
  obtain rfl := Option.some.inj h
  have HL := Aside0.mk hl
  have hcl : impl_Event_136.f l0 = some l0 := by unfold impl_Event_136.f; simp only [Option.bind_some, List.length_nil, List.nil_append]; rw [if_pos (by omega)]
  have HCL := Aside0.mk hcl
  clear h hl hcl
  go_enter Try.func98, Try.ntmps98
  go_wp2_with (first
   | ((with_reducible refine gate_dst (N := 3) rfl ?_); refine box_event ?hg (N := 3) ?hd (cs := #[.int .i64 a1]) (t := 3) ?hr ?_; (case hd => rfl); (case hg => rfl); (case hr => first | (go_simp; done) | (go_simp; rfl)); intro gb hg w3 hbv hb; have n0_ := Aside0.mk (below_step (by repeat (first | (with_reducible first | exact HW.out | apply below_alloc | apply pw_below_drewN | apply below_drew1) | exact HW.out)) hb); clear HW; have HW := n0_; clear n0_; have BV := Aside0.mk hbv; clear hb hg hbv)
   | ((with_reducible refine gate_callee (f := 136) rfl ?_); refine goesL_ (some 6) rfl rfl Try.func136 (by kernel_rfl) rfl #[.slice A0 l0.length c0] rfl (by (try simp only [List.map_toArray, List.map_cons, List.map_nil]); first | done | rfl | (simp only [List.length_drop, List.length_take]; rfl)) ?_; (with_reducible refine (impl_Event_136.calls _ _ l0 l0 _ ?side1 ?side2 HCL.out).mono ?_); (case side1 => repeat (first | exact (Kd.C_below HR0.out HW.out) | (with_reducible refine Kd.C_alloc ?_ _) | (with_reducible refine Kd.C_drewN ?_ _) | (with_reducible refine Kd.C_drew ?_))); (case side2 => exact HC0.out); rintro e w5 ⟨v5, rfl, ho, hb⟩; refine ⟨_, rfl, ?_⟩; have n0_ := Aside0.mk (Kd.R_lower ho (below_size (by repeat (first | (with_reducible first | exact HW.out | apply below_alloc | apply pw_below_drewN | apply below_drew1) | exact HW.out)))); have n1_ := Aside0.mk (blk_below (by (with_reducible repeat (first | refine blk_drewN ?_ _ | refine blk_drew ?_ | refine blk_alloc ?_ _)); exact BV.out) hb); have n2_ := Aside0.mk (below_step (by repeat (first | (with_reducible first | exact HW.out | apply below_alloc | apply pw_below_drewN | apply below_drew1) | exact HW.out)) hb); clear HW; clear BV; have HO := n0_; have BV := n1_; have HW := n2_; clear n0_ n1_ n2_; clear hb ho)
   | (go_at_call 135; (refine (vo_delete a1 gb w.heap.size v5 l0 _ ?s1 ?s2 ?s3 ?s4).mono ?_); (case s1 => (with_reducible repeat (first | apply Kd.R_alloc | apply Kd.R_drewN | apply Kd.R_drew)); exact HO.out); (case s2 => (with_reducible repeat (first | refine blk_drewN ?_ _ | refine blk_drew ?_ | refine blk_alloc ?_ _)); exact BV.out); (case s3 => have := HL.out; omega); (case s4 => exact below_size (by repeat (first | (with_reducible first | exact HW.out | apply below_alloc | apply pw_below_drewN | apply below_drew1) | exact HW.out))); rintro e w7 ⟨v7, rfl, ho7, hb7⟩; have HO7 := Aside0.mk ho7; have HB7 := Aside0.mk (Below.trans (by repeat (first | (with_reducible first | exact HW.out | apply below_alloc | apply pw_below_drewN | apply below_drew1) | exact HW.out)) hb7); clear ho7 hb7))
  go_ret
  exact ⟨_, by first | rfl | (simp; done), by (with_reducible repeat (first | apply Kd.R_alloc | apply Kd.R_drewN | apply Kd.R_drew)); exact HO7.out, by repeat (first | (with_reducible first | exact HB7.out | apply below_alloc | apply pw_below_drewN | apply below_drew1) | exact HB7.out)⟩
 ·
  rw [if_neg hl] at h
  exact absurd h (by simp)

end Go.Proofs.Ytiophiipmgpaeaa.F

-- Written for this claim by the kit's print.py out of the translation, called by wip/tools/fprint.py. Lean checks it.
namespace Go.Proofs.Ytiophiipmgpaeaa.F
open Go.RowKit Go.Proofs.YtiophiipmgpaeaaW.PrintWords Go.Proofs.YtiophiipmgpaeaaW.PrintLast Go.Proofs.YtiophiipmgpaeaaW.PrintMore
attribute [local go_sem] max2_int min2_int max_two min_two max_three min_three max_four min_four   -- for this text's walks alone
set_option linter.unusedVariables false
set_option linter.unusedSimpArgs false

/-! ### impl_PartFrom: function 49 -/
mutual
def impl_PartFrom.j0 : Nat → List (S118) → Int → Int → List (S116) → Int → Bool → Option ((List (S116)) × Bool)
 | 0, _, _, _, _, _, _ => none
 | k + 1, x0, x1, x2, x8, x9, x19 => if x19 = true then (some (x8, false)) else ((impl_VoiceOf.f x0 x1).bind fun t585 => (impl_PartFrom.l0 k x2 x8 x9 t585 (t585.length : Int) 0))
def impl_PartFrom.l0 : Nat → Int → List (S116) → Int → List (S118) → Int → Int → Option ((List (S116)) × Bool)
 | 0, _, _, _, _, _, _ => none
 | k + 1, x2, x8, x9, x23, x24, x25 => if x25 < x24 then (if 0 ≤ x25 then (if x25 < (x23.length : Int) then (if ((rd_T118 x23 x25).f0) < x9 then (some ((([] : List (S116))), false)) else (if ((rd_T118 x23 x25).f0) > x9 then (if x8.length < 5864062014805 then ((some (x8 ++ [(⟨x9, wrap64 (((rd_T118 x23 x25).f0) - x9), 0⟩ : S116)] : List (S116))).bind fun y593 => (if y593.length < 5864062014805 then (impl_PartFrom.l0 k x2 (y593 ++ [(⟨(rd_T118 x23 x25).f0, (rd_T118 x23 x25).f1, (rd_T118 x23 x25).f2⟩ : S116)]) (wrap64 (((rd_T118 x23 x25).f0) + ((rd_T118 x23 x25).f1))) x23 x24 (wrap64 (x25 + 1))) else (none))) else (none)) else (if x8.length < 5864062014805 then (impl_PartFrom.l0 k x2 (x8 ++ [(⟨(rd_T118 x23 x25).f0, (rd_T118 x23 x25).f1, (rd_T118 x23 x25).f2⟩ : S116)]) (wrap64 (((rd_T118 x23 x25).f0) + ((rd_T118 x23 x25).f1))) x23 x24 (wrap64 (x25 + 1))) else (none)))) else (none)) else (none)) else (if x2 < x9 then (some ((([] : List (S116))), false)) else (if x2 > x9 then (if x8.length < 5864062014805 then (some ((x8 ++ [(⟨x9, wrap64 (x2 - x9), 0⟩ : S116)]), true)) else (none)) else (some (x8, true))))
end
def impl_PartFrom.f (k : Nat) (l0 : List (S118)) (a1 : Int) (a2 : Int) : Option ((List (S116)) × Bool) := (some (([] : List (S116)) : List (S116))).bind fun y581 => ((impl_IsScore.f k l0).bind fun t584 => (if t584 = true then (impl_PartFrom.j0 k l0 a1 a2 y581 0 (decide (a2 > 2096))) else (impl_PartFrom.j0 k l0 a1 a2 y581 0 true)))
def impl_PartFrom.T11 : Bool × List (List Nat × List Nat) := (true, [([], []), ([], []), ([1], [1]), ([], []), ([3], [3]), ([], []), ([5], [5]), ([2, 4, 6], [2, 4, 6]), ([7], [7]), ([0, 8], [0, 8]), ([], []), ([10], [10]), ([], []), ([12], [12]), ([11, 13], [11, 13]), ([9, 9, 0, 1, 2, 3, 4, 5, 6, 7, 8, 9], [0, 9]), ([14, 15, 0, 1, 2, 3, 4, 5, 6, 7, 8, 9, 10, 11, 12, 13, 14, 15], [14])])
def impl_PartFrom.B11 : List Nat := [0, 0, 2, 0, 8, 0, 32, 126, 254, 511, 0, 1024, 0, 4096, 15360, 1023, 65535]
theorem impl_PartFrom.tab11 : rtab .any (opsOf Try.f49 11) = impl_PartFrom.T11 := by kernel_rfl
theorem impl_PartFrom.bits11 : waitsOk impl_PartFrom.T11.2 impl_PartFrom.B11 = true := by kernel_rfl
set_option maxHeartbeats 8000000 in
set_option maxRecDepth 100000 in
theorem impl_PartFrom.calls (k : Nat) (A0 : Option Addr) (c0 : Nat) (l0 : List (S118)) (a1 : Int) (a2 : Int) (r1 : List (S116)) (r2 : Bool) (w : World) (hr0 : Kd.C k118 w A0 l0.length l0) (hc0 : l0.length ≤ c0) (h : impl_PartFrom.f k l0 a1 a2 = some (r1, r2)) :
  Calls Try.prog 49 #[.slice A0 l0.length c0, .int .i64 a1, .int .i64 a2] w fun e w' => ∃ v0_ : Value, e = .returned (.tuple #[v0_, .bool r2]) ∧ Kd.R k116 116 w' w.heap.size (fun _ => True) v0_ r1 ∧ Below w.heap.size w w' := by
 have hu118 := Try.underlying118
 have hu116 := Try.underlying116
 have HR0 := Aside0.mk hr0
 have HC0 := Aside0.mk hc0
 clear hr0 hc0
 have HB := Aside0.mk (Below.refl w.heap.size w)
 have H : ((some (([] : List (S116)) : List (S116))).bind fun y581 => ((impl_IsScore.f k l0).bind fun t584 => (if t584 = true then (impl_PartFrom.j0 k l0 a1 a2 y581 0 (decide (a2 > 2096))) else (impl_PartFrom.j0 k l0 a1 a2 y581 0 true)))) = some (r1, r2) := h
 clear h
 obtain ⟨y581, hy581⟩ : ∃ y_ : List (S116), y_ = (([] : List (S116))) := ⟨_, rfl⟩
 replace H : ((impl_IsScore.f k l0).bind fun t584 => (if t584 = true then (impl_PartFrom.j0 k l0 a1 a2 y581 0 (decide (a2 > 2096))) else (impl_PartFrom.j0 k l0 a1 a2 y581 0 true))) = some (r1, r2) := by first | (rw [hy581]; with_reducible exact H) | (have H2_ := (Option.bind_some _ _).symm.trans H; rw [hy581]; with_reducible exact H2_) | (have H2_ := (Option.bind_some _ _).symm.trans H; with_reducible exact H2_) | with_reducible exact H | (rw [hy581]; exact H) | exact H
 have Ny581 := Aside0.mk hy581
 clear hy581
 have HC4 := Aside0.mk H
 clear H
 go_enter Try.func49, Try.ntmps49
 go_upto_region 2 with (first | ((with_reducible refine gate_dst (N := 12) rfl ?_); refine Kd.R_lit k116 _ 116 ?hg (N := 12) ?hd (xs := ([] : List (S116))) (inner := []) (ok := fun _ => True) (okp := fun _ => True) ?hr ?hp (fun _ hk => hk) trivial (Below.refl _ _) (Nat.le_refl _) (by simp) ?_; (case hd => rfl); (case hg => rfl); (case hr => first | (go_simp; done) | (go_simp; rfl)); (case hp => exact (Reps.none _ _)); intro v582 w5 ho6 hb hg_ hnew_; clear hg_ hnew_; (first | rw [← Ny581.out] at ho6 | (simp only [Int.reduceToNat] at ho6; rw [← Ny581.out] at ho6)); have n0_ := Aside0.mk (Kd.R_lower ho6 (below_size (by repeat (first | (with_reducible first | exact HB.out | apply below_alloc | apply pw_below_drewN | apply below_drew1) | exact HB.out)))); have n1_ := Aside0.mk (below_step (by repeat (first | (with_reducible first | exact HB.out | apply below_alloc | apply pw_below_drewN | apply below_drew1) | exact HB.out)) hb); clear HB; have HO583 := n0_; have HB := n1_; clear n0_ n1_; clear hb ho6))
 (try simp only [Act.put, List.setIfInBounds_toArray, List.set_cons_zero, List.set_cons_succ])
 go_cut [19] (fun v19 wc => ∃ (kq : Nat) (x19_3 : Bool), v19 = .bool x19_3 ∧ Aside0 (impl_PartFrom.j0 kq l0 a1 a2 y581 0 x19_3 = some (r1, r2)) ∧ Aside0 (kq ≤ k) ∧ Aside0 (Kd.R k116 116 wc w.heap.size (fun _ => True) v582 y581) ∧ Aside0 (Below w.heap.size w wc))
 case first =>
  have H := HC4.out
  clear HC4
  replace H := Option.bind_eq_some_iff.mp H
  obtain ⟨t584, A70, H⟩ := H
  try dsimp only at H
  have A7 := Aside0.mk A70
  clear A70
  by_cases c8 : t584 = true
  ·
   subst c8
   rw [if_pos rfl] at H
   have H' := Aside0.mk H
   clear H
   go_wp2_with (first | ((with_reducible refine gate_callee (f := 97) rfl ?_); refine goesL_ (some 14) rfl rfl Try.func97 (by kernel_rfl) rfl #[.slice A0 l0.length c0] rfl (by (try simp only [List.map_toArray, List.map_cons, List.map_nil]); first | done | rfl | (simp only [List.length_drop, List.length_take]; rfl)) ?_; (with_reducible refine (impl_IsScore.calls k _ _ l0 true _ ?side1 ?side2 A7.out).mono ?_); (case side1 => repeat (first | exact (Kd.C_below HR0.out HB.out) | (with_reducible refine Kd.C_alloc ?_ _) | (with_reducible refine Kd.C_drewN ?_ _) | (with_reducible refine Kd.C_drew ?_))); (case side2 => exact HC0.out); rintro e w9 ⟨rfl, hb⟩; refine ⟨_, rfl, ?_⟩; have n0_ := Aside0.mk (Kd.R_below (by (with_reducible repeat (first | apply Kd.R_alloc | apply Kd.R_drewN | apply Kd.R_drew)); exact HO583.out) hb); have n1_ := Aside0.mk (below_step (by repeat (first | (with_reducible first | exact HB.out | apply below_alloc | apply pw_below_drewN | apply below_drew1) | exact HB.out)) hb); clear HO583; clear HB; have HO583 := n0_; have HB := n1_; clear n0_ n1_; (try clear hb); (try clear hb2); (try clear hk); (try clear hi)))
   go_meet
   case rel => exact ⟨_, (decide (a2 > 2096)), (by first | rfl | (simp; done) | (simp [*]; done)), H', ⟨by first | omega | exact Nat.le_refl _⟩, ⟨by (with_reducible repeat (first | apply Kd.R_alloc | apply Kd.R_drewN | apply Kd.R_drew)); exact HO583.out⟩, ⟨by repeat (first | (with_reducible first | exact HB.out | apply below_alloc | apply pw_below_drewN | apply below_drew1) | exact HB.out)⟩⟩
  ·
   replace c8 := Bool.eq_false_iff.mpr c8
   subst c8
   rw [if_neg (show ¬ (false = true) by decide)] at H
   have H' := Aside0.mk H
   clear H
   go_wp2_with (first | ((with_reducible refine gate_callee (f := 97) rfl ?_); refine goesL_ (some 14) rfl rfl Try.func97 (by kernel_rfl) rfl #[.slice A0 l0.length c0] rfl (by (try simp only [List.map_toArray, List.map_cons, List.map_nil]); first | done | rfl | (simp only [List.length_drop, List.length_take]; rfl)) ?_; (with_reducible refine (impl_IsScore.calls k _ _ l0 false _ ?side1 ?side2 A7.out).mono ?_); (case side1 => repeat (first | exact (Kd.C_below HR0.out HB.out) | (with_reducible refine Kd.C_alloc ?_ _) | (with_reducible refine Kd.C_drewN ?_ _) | (with_reducible refine Kd.C_drew ?_))); (case side2 => exact HC0.out); rintro e w10 ⟨rfl, hb⟩; refine ⟨_, rfl, ?_⟩; have n0_ := Aside0.mk (Kd.R_below (by (with_reducible repeat (first | apply Kd.R_alloc | apply Kd.R_drewN | apply Kd.R_drew)); exact HO583.out) hb); have n1_ := Aside0.mk (below_step (by repeat (first | (with_reducible first | exact HB.out | apply below_alloc | apply pw_below_drewN | apply below_drew1) | exact HB.out)) hb); clear HO583; clear HB; have HO583 := n0_; have HB := n1_; clear n0_ n1_; (try clear hb); (try clear hb2); (try clear hk); (try clear hi)))
   go_meet
   case rel => exact ⟨_, (true), (by first | rfl | (simp; done) | (simp [*]; done)), H', ⟨by first | omega | exact Nat.le_refl _⟩, ⟨by (with_reducible repeat (first | apply Kd.R_alloc | apply Kd.R_drewN | apply Kd.R_drew)); exact HO583.out⟩, ⟨by repeat (first | (with_reducible first | exact HB.out | apply below_alloc | apply pw_below_drewN | apply below_drew1) | exact HB.out)⟩⟩
 case rest =>
  clear HC4
  try clear p2
  try clear c4
  try clear c8
  try clear c9
  obtain ⟨kq, x19_3, rfl, HA, HJ3, HO_8, HB⟩ := hcut
  cases kq with
  | zero => exact absurd HA.out (by simp [impl_PartFrom.j0])
  | succ kj3 =>
   have H := HA.out
   clear HA
   simp only [impl_PartFrom.j0] at H
   by_cases c11 : x19_3 = true
   ·
    subst c11
    rw [if_pos rfl] at H
    simp only [Option.some.injEq, Prod.mk.injEq] at H
    obtain ⟨rfl, rfl⟩ := H
    go_wp2
    go_ret2
    exact ⟨_, by first | rfl | (simp [errW_none, errW_some] <;> rfl) | (simp [*, errW_none, errW_some] <;> rfl), by (with_reducible repeat (first | apply Kd.R_alloc | apply Kd.R_drewN | apply Kd.R_drew)); exact HO_8.out, by repeat (first | (with_reducible first | exact HB.out | apply below_alloc | apply pw_below_drewN | apply below_drew1) | exact HB.out)⟩
   ·
    replace c11 := Bool.eq_false_iff.mpr c11
    subst c11
    rw [if_neg (show ¬ (false = true) by decide)] at H
    replace H := Option.bind_eq_some_iff.mp H
    obtain ⟨t585, A120, H⟩ := H
    try dsimp only at H
    have A12 := Aside0.mk A120
    clear A120
    have H' := Aside0.mk H
    clear H
    go_wp2_with (first | ((with_reducible refine gate_callee (f := 98) rfl ?_); refine goesL_ (some 23) rfl rfl Try.func98 (by kernel_rfl) rfl #[.slice A0 l0.length c0, .int .i64 a1] rfl (by (try simp only [List.map_toArray, List.map_cons, List.map_nil]); first | done | rfl | (simp only [List.length_drop, List.length_take]; rfl)) ?_; (with_reducible refine (impl_VoiceOf.calls _ _ l0 a1 t585 _ ?side1 ?side2 A12.out).mono ?_); (case side1 => repeat (first | exact (Kd.C_below HR0.out HB.out) | (with_reducible refine Kd.C_alloc ?_ _) | (with_reducible refine Kd.C_drewN ?_ _) | (with_reducible refine Kd.C_drew ?_))); (case side2 => exact HC0.out); rintro e w13 ⟨v586, rfl, ho0, hb⟩; refine ⟨_, rfl, ?_⟩; have n0_ := Aside0.mk (Kd.R_below (by (with_reducible repeat (first | apply Kd.R_alloc | apply Kd.R_drewN | apply Kd.R_drew)); exact HO_8.out) hb); have n1_ := Aside0.mk (Kd.R_lower ho0 (below_size (by repeat (first | (with_reducible first | exact HB.out | apply below_alloc | apply pw_below_drewN | apply below_drew1) | exact HB.out)))); have n2_ := Aside0.mk (below_step (by repeat (first | (with_reducible first | exact HB.out | apply below_alloc | apply pw_below_drewN | apply below_drew1) | exact HB.out)) hb); clear HO_8; clear HB; have HO_8 := n0_; have HO587 := n1_; have HB := n2_; clear n0_ n1_ n2_; (try clear hb); (try clear hb2); (try clear hk); (try clear hi); (try clear ho0); obtain ⟨Ao14, co14, eo14⟩ := Kd.R_slice HO587.out; subst eo14))
    go_loopg [8, 9, 25] kj3 (fun kq v8 v9 v25 w' => ∃ (x8_2 : List (S116)) (x9_2 : Int) (x25_2 : Int), v9 = .int .i64 x9_2 ∧ v25 = .int .i64 x25_2 ∧ Aside0 (impl_PartFrom.l0 kq a2 x8_2 x9_2 t585 (t585.length : Int) x25_2 = some (r1, r2)) ∧ Aside0 (kq ≤ kj3) ∧ Aside0 (Kd.R k116 116 w' w.heap.size (fun _ => True) v8 x8_2) ∧ Aside0 (Kd.R k118 118 w' w.heap.size (fun _ => True) (.slice Ao14 t585.length co14) t585) ∧ Aside0 (Below w.heap.size w w'))
    case atStart => exact ⟨(y581), (0), (0), (by first | rfl | (simp; done) | (simp [*]; done)), (by first | rfl | (simp; done) | (simp [*]; done)), H', ⟨Nat.le_refl _⟩, ⟨by (with_reducible repeat (first | apply Kd.R_alloc | apply Kd.R_drewN | apply Kd.R_drew)); exact HO_8.out⟩, ⟨by (with_reducible repeat (first | apply Kd.R_alloc | apply Kd.R_drewN | apply Kd.R_drew)); exact HO587.out⟩, ⟨by repeat (first | (with_reducible first | exact HB.out | apply below_alloc | apply pw_below_drewN | apply below_drew1) | exact HB.out)⟩⟩
    case round =>
     clear H'
     try clear c1
     try clear p2
     try clear c4
     try clear c8
     try clear c9
     try clear c11
     try clear p2
     obtain ⟨x8_2, x9_2, x25_2, rfl, rfl, HA, HK2, HO_8, HO_23, HB⟩ := hrel
     cases gk with
     | zero => exact absurd HA.out (by simp [impl_PartFrom.l0])
     | succ k2 =>
      have H := HA.out
      clear HA
      simp only [impl_PartFrom.l0] at H
      by_cases c15 : x25_2 < (t585.length : Int)
      ·
       rw [if_pos c15] at H
       have c15b0 : decide (x25_2 < (t585.length : Int)) = true := decide_eq_true c15
       clear c15
       by_cases c16 : 0 ≤ x25_2
       ·
        rw [if_pos c16] at H
        have c16b0 : decide (0 ≤ x25_2) = true := decide_eq_true c16
        clear c16
        by_cases c17 : x25_2 < (t585.length : Int)
        ·
         rw [if_pos c17] at H
         have c17b0 : decide (x25_2 < (t585.length : Int)) = true := decide_eq_true c17
         clear c17
         by_cases c18 : ((rd_T118 t585 x25_2).f0) < x9_2
         ·
          rw [if_pos c18] at H
          have c18b0 : decide (((rd_T118 t585 x25_2).f0) < x9_2) = true := decide_eq_true c18
          clear c18
          obtain ⟨y590, hy590⟩ : ∃ y_ : List (S116), y_ = (([] : List (S116))) := ⟨_, rfl⟩
          replace H : (some (y590, false)) = some (r1, r2) := by first | (rw [hy590]; with_reducible exact H) | (have H2_ := (Option.bind_some _ _).symm.trans H; rw [hy590]; with_reducible exact H2_) | (have H2_ := (Option.bind_some _ _).symm.trans H; with_reducible exact H2_) | with_reducible exact H | (rw [hy590]; exact H) | exact H
          have Ny590 := Aside0.mk hy590
          clear hy590
          simp only [Option.some.injEq, Prod.mk.injEq] at H
          obtain ⟨rfl, rfl⟩ := H
          have p588 : 0 ≤ (x25_2 : Int) := of_decide_eq_true (by first | (with_reducible assumption) | assumption)
          have q588 : x25_2 < (t585.length : Int) := of_decide_eq_true (by first | (with_reducible assumption) | assumption)
          obtain ⟨ad588, e588, hx588_0, hx588_1, hx588_2, hx588_3⟩ := at_T118 (Kd.R_reads' HO_23.out).2.2 x25_2 p588 q588
          cases e588
          replace p588 := eq_true p588
          replace q588 := eq_true q588
          go_wp2_with (first | ((with_reducible refine gate_dst (N := 11) rfl ?_); refine box_event ?hg (N := 11) ?hd (cs := #[.int .i64 0, .int .i64 0, .int .i64 0, .int .i64 0]) (t := 118) ?hr ?_; (case hd => rfl); (case hg => rfl); (case hr => first | (go_simp; done) | (go_simp; rfl)); intro gb589 hg w19 hbox hb; have n0_ := Aside0.mk (Kd.R_below (by (with_reducible repeat (first | apply Kd.R_alloc | apply Kd.R_drewN | apply Kd.R_drew)); exact HO_8.out) hb); have n1_ := Aside0.mk (Kd.R_below (Kd.R_elderB (by (with_reducible repeat (first | apply Kd.R_alloc | apply Kd.R_drewN | apply Kd.R_drew)); exact HO_23.out) gb589 (Nat.le_of_eq hg.symm)) hb); have n2_ := Aside0.mk (below_step (by repeat (first | (with_reducible first | exact HB.out | apply below_alloc | apply pw_below_drewN | apply below_drew1) | exact HB.out)) hb); have n3_ := Aside0.mk (hbox); have n4_ := Aside0.mk ((by rw [hg]; exact (below_size (by repeat (first | (with_reducible first | exact HB.out | apply below_alloc | apply pw_below_drewN | apply below_drew1) | exact HB.out))) : w.heap.size ≤ gb589)); have n5_ := Aside0.mk ((by rw [hg]; exact (below_size (by repeat (first | (with_reducible first | exact HB.out | apply below_alloc | apply pw_below_drewN | apply below_drew1) | exact HB.out))) : w.heap.size ≤ gb589)); clear HO_8; clear HO_23; clear HB; have HO_8 := n0_; have HO_23 := n1_; have HB := n2_; have BK589 := n3_; have GW589 := n4_; have GE589 := n5_; clear n0_ n1_ n2_ n3_ n4_ n5_; clear hb hbox hg; have hcz20_0 : w19.cell? ⟨gb589, 0, none⟩ = some (.int .i64 0) := (blk_cell BK589.out 0).trans rfl; have hcz20_1 : w19.cell? ⟨gb589, 1, none⟩ = some (.int .i64 0) := (blk_cell BK589.out 1).trans rfl; have hcz20_2 : w19.cell? ⟨gb589, 2, none⟩ = some (.int .i64 0) := (blk_cell BK589.out 2).trans rfl; have hcz20_3 : w19.cell? ⟨gb589, 3, none⟩ = some (.int .i64 0) := (blk_cell BK589.out 3).trans rfl; have hfz20_0 := blk_frozen BK589.out 0; have hfz20_1 := blk_frozen BK589.out 1; have hfz20_2 := blk_frozen BK589.out 2; have hfz20_3 := blk_frozen BK589.out 3) | ((with_reducible refine gate_dst (N := 33) rfl ?_); refine Kd.R_lit k116 _ 116 ?hg (N := 33) ?hd (xs := ([] : List (S116))) (inner := []) (ok := fun _ => True) (okp := fun _ => True) ?hr ?hp (fun _ hk => hk) trivial (Below.refl _ _) (Nat.le_refl _) (by simp) ?_; (case hd => rfl); (case hg => rfl); (case hr => first | (go_simp; done) | (go_simp; rfl)); (case hp => exact (Reps.none _ _)); intro v591 w21 ho22 hb hg_ hnew_; clear hg_ hnew_; (first | rw [← Ny590.out] at ho22 | (simp only [Int.reduceToNat] at ho22; rw [← Ny590.out] at ho22)); have n0_ := Aside0.mk (Kd.R_elder' (by (with_reducible repeat (first | apply Kd.R_alloc | apply Kd.R_drewN | apply Kd.R_drew)); exact (Kd.R_mono (Kd.R_far (p := ⟨gb589, 3, none⟩) (Kd.R_far (p := ⟨gb589, 2, none⟩) (Kd.R_far (p := ⟨gb589, 1, none⟩) (Kd.R_far (p := ⟨gb589, 0, none⟩) (Kd.R_types HO_8.out BK589.out (by decide)) (fun _ hk => hk.2) (.int .i64 ((rd_T118 t585 x25_2).f0))) (fun _ hk => hk.2) (.int .i64 ((rd_T118 t585 x25_2).f1))) (fun _ hk => hk.2) (.int .i64 ((rd_T118 t585 x25_2).f2))) (fun _ hk => hk.2) (.int .i64 ((rd_T118 t585 x25_2).f3))) (fun _ h_ => h_.1))) (Kd.R_base ho22) hb); have n1_ := Aside0.mk (Kd.R_below (by (with_reducible repeat (first | apply Kd.R_alloc | apply Kd.R_drewN | apply Kd.R_drew)); exact (Kd.R_mono (Kd.R_far (p := ⟨gb589, 3, none⟩) (Kd.R_far (p := ⟨gb589, 2, none⟩) (Kd.R_far (p := ⟨gb589, 1, none⟩) (Kd.R_far (p := ⟨gb589, 0, none⟩) (Kd.R_mono HO_23.out (fun k_ hk => (⟨hk, hk.2⟩ : _ ∧ k_ ≠ gb589))) (fun _ hk => hk.2) (.int .i64 ((rd_T118 t585 x25_2).f0))) (fun _ hk => hk.2) (.int .i64 ((rd_T118 t585 x25_2).f1))) (fun _ hk => hk.2) (.int .i64 ((rd_T118 t585 x25_2).f2))) (fun _ hk => hk.2) (.int .i64 ((rd_T118 t585 x25_2).f3))) (fun _ h_ => h_.1))) hb); have n2_ := Aside0.mk (Kd.R_lower (Kd.R_new' ho22 (Kd.R_lt (by (with_reducible repeat (first | apply Kd.R_alloc | apply Kd.R_drewN | apply Kd.R_drew)); exact (Kd.R_mono (Kd.R_far (p := ⟨gb589, 3, none⟩) (Kd.R_far (p := ⟨gb589, 2, none⟩) (Kd.R_far (p := ⟨gb589, 1, none⟩) (Kd.R_far (p := ⟨gb589, 0, none⟩) (Kd.R_types HO_8.out BK589.out (by decide)) (fun _ hk => hk.2) (.int .i64 ((rd_T118 t585 x25_2).f0))) (fun _ hk => hk.2) (.int .i64 ((rd_T118 t585 x25_2).f1))) (fun _ hk => hk.2) (.int .i64 ((rd_T118 t585 x25_2).f2))) (fun _ hk => hk.2) (.int .i64 ((rd_T118 t585 x25_2).f3))) (fun _ h_ => h_.1))))) (below_size (by repeat (first | (with_reducible first | exact HB.out | apply below_alloc | apply pw_below_drewN | apply below_drew1 | refine below_set ?_ GE589.out) | exact HB.out)))); have n3_ := Aside0.mk (blk_below (g := gb589) (o := .cells #[.int .i64 ((rd_T118 t585 x25_2).f0), .int .i64 ((rd_T118 t585 x25_2).f1), .int .i64 ((rd_T118 t585 x25_2).f2), .int .i64 ((rd_T118 t585 x25_2).f3)] 118 (0, 0)) (by (with_reducible repeat (first | refine blk_drewN ?_ _ | refine blk_drew ?_ | refine blk_alloc ?_ _)); refine blk_put (cs := #[.int .i64 ((rd_T118 t585 x25_2).f0), .int .i64 ((rd_T118 t585 x25_2).f1), .int .i64 ((rd_T118 t585 x25_2).f2), .int .i64 0]) ?_ 3 _ rfl; (with_reducible repeat (first | refine blk_drewN ?_ _ | refine blk_drew ?_ | refine blk_alloc ?_ _)); refine blk_put (cs := #[.int .i64 ((rd_T118 t585 x25_2).f0), .int .i64 ((rd_T118 t585 x25_2).f1), .int .i64 0, .int .i64 0]) ?_ 2 _ rfl; (with_reducible repeat (first | refine blk_drewN ?_ _ | refine blk_drew ?_ | refine blk_alloc ?_ _)); refine blk_put (cs := #[.int .i64 ((rd_T118 t585 x25_2).f0), .int .i64 0, .int .i64 0, .int .i64 0]) ?_ 1 _ rfl; (with_reducible repeat (first | refine blk_drewN ?_ _ | refine blk_drew ?_ | refine blk_alloc ?_ _)); refine blk_put (cs := #[.int .i64 0, .int .i64 0, .int .i64 0, .int .i64 0]) ?_ 0 _ rfl; (with_reducible repeat (first | refine blk_drewN ?_ _ | refine blk_drew ?_ | refine blk_alloc ?_ _)); exact BK589.out) hb); have n4_ := Aside0.mk (below_step (by repeat (first | (with_reducible first | exact HB.out | apply below_alloc | apply pw_below_drewN | apply below_drew1 | refine below_set ?_ GE589.out) | exact HB.out)) hb); clear HO_8; clear HO_23; clear BK589; clear HB; have HO_8 := n0_; have HO_23 := n1_; have HO592 := n2_; have BK589 := n3_; have HB := n4_; clear n0_ n1_ n2_ n3_ n4_; clear hb ho22))
          go_ret2
          exact ⟨_, by first | rfl | (simp [errW_none, errW_some] <;> rfl) | (simp [*, errW_none, errW_some] <;> rfl), by (with_reducible repeat (first | apply Kd.R_alloc | apply Kd.R_drewN | apply Kd.R_drew)); exact Kd.R_mono HO592.out (fun _ hk => trivial), by repeat (first | (with_reducible first | exact HB.out | apply below_alloc | apply pw_below_drewN | apply below_drew1 | refine below_set ?_ GE589.out) | exact HB.out)⟩
         ·
          rw [if_neg c18] at H
          have c18b0 : decide (((rd_T118 t585 x25_2).f0) < x9_2) = false := decide_eq_false c18
          clear c18
          by_cases c23 : ((rd_T118 t585 x25_2).f0) > x9_2
          ·
           rw [if_pos c23] at H
           have c23b0 : decide (x9_2 < ((rd_T118 t585 x25_2).f0)) = true := decide_eq_true c23
           clear c23
           by_cases c24 : x8_2.length < 5864062014805
           ·
            rw [if_pos c24] at H
            have LMc24 := Aside0.mk c24
            clear c24
            obtain ⟨y593, hy593⟩ : ∃ y_ : List (S116), y_ = (x8_2 ++ [(⟨x9_2, wrap64 (((rd_T118 t585 x25_2).f0) - x9_2), 0⟩ : S116)]) := ⟨_, rfl⟩
            replace H : (if y593.length < 5864062014805 then (impl_PartFrom.l0 k2 a2 (y593 ++ [(⟨(rd_T118 t585 x25_2).f0, (rd_T118 t585 x25_2).f1, (rd_T118 t585 x25_2).f2⟩ : S116)]) (wrap64 (((rd_T118 t585 x25_2).f0) + ((rd_T118 t585 x25_2).f1))) t585 (t585.length : Int) (wrap64 (x25_2 + 1))) else (none)) = some (r1, r2) := by first | (rw [hy593]; with_reducible exact H) | (have H2_ := (Option.bind_some _ _).symm.trans H; rw [hy593]; with_reducible exact H2_) | (have H2_ := (Option.bind_some _ _).symm.trans H; with_reducible exact H2_) | with_reducible exact H | (rw [hy593]; exact H) | exact H
            have Ny593 := Aside0.mk hy593
            clear hy593
            by_cases c25 : y593.length < 5864062014805
            ·
             rw [if_pos c25] at H
             have LMc25 := Aside0.mk c25
             clear c25
             obtain ⟨y596, hy596⟩ : ∃ y_ : List (S116), y_ = (y593 ++ [(⟨(rd_T118 t585 x25_2).f0, (rd_T118 t585 x25_2).f1, (rd_T118 t585 x25_2).f2⟩ : S116)]) := ⟨_, rfl⟩
             replace H : (impl_PartFrom.l0 k2 a2 y596 (wrap64 (((rd_T118 t585 x25_2).f0) + ((rd_T118 t585 x25_2).f1))) t585 (t585.length : Int) (wrap64 (x25_2 + 1))) = some (r1, r2) := by first | (rw [hy596]; with_reducible exact H) | (have H2_ := (Option.bind_some _ _).symm.trans H; rw [hy596]; with_reducible exact H2_) | (have H2_ := (Option.bind_some _ _).symm.trans H; with_reducible exact H2_) | with_reducible exact H | (rw [hy596]; exact H) | exact H
             have Ny596 := Aside0.mk hy596
             clear hy596
             have H' := Aside0.mk H
             clear H
             have p588 : 0 ≤ (x25_2 : Int) := of_decide_eq_true (by first | (with_reducible assumption) | assumption)
             have q588 : x25_2 < (t585.length : Int) := of_decide_eq_true (by first | (with_reducible assumption) | assumption)
             obtain ⟨ad588, e588, hx588_0, hx588_1, hx588_2, hx588_3⟩ := at_T118 (Kd.R_reads' HO_23.out).2.2 x25_2 p588 q588
             cases e588
             replace p588 := eq_true p588
             replace q588 := eq_true q588
             try go_wp2_with (first | ((with_reducible refine gate_dst (N := 11) rfl ?_); refine box_event ?hg (N := 11) ?hd (cs := #[.int .i64 0, .int .i64 0, .int .i64 0, .int .i64 0]) (t := 118) ?hr ?_; (case hd => rfl); (case hg => rfl); (case hr => first | (go_simp; done) | (go_simp; rfl)); intro gb589 hg w26 hbox hb; have n0_ := Aside0.mk (Kd.R_below (by (with_reducible repeat (first | apply Kd.R_alloc | apply Kd.R_drewN | apply Kd.R_drew)); exact HO_8.out) hb); have n1_ := Aside0.mk (Kd.R_below (Kd.R_elderB (by (with_reducible repeat (first | apply Kd.R_alloc | apply Kd.R_drewN | apply Kd.R_drew)); exact HO_23.out) gb589 (Nat.le_of_eq hg.symm)) hb); have n2_ := Aside0.mk (below_step (by repeat (first | (with_reducible first | exact HB.out | apply below_alloc | apply pw_below_drewN | apply below_drew1) | exact HB.out)) hb); have n3_ := Aside0.mk (hbox); have n4_ := Aside0.mk ((by rw [hg]; exact (below_size (by repeat (first | (with_reducible first | exact HB.out | apply below_alloc | apply pw_below_drewN | apply below_drew1) | exact HB.out))) : w.heap.size ≤ gb589)); have n5_ := Aside0.mk ((by rw [hg]; exact (below_size (by repeat (first | (with_reducible first | exact HB.out | apply below_alloc | apply pw_below_drewN | apply below_drew1) | exact HB.out))) : w.heap.size ≤ gb589)); clear HO_8; clear HO_23; clear HB; have HO_8 := n0_; have HO_23 := n1_; have HB := n2_; have BK589 := n3_; have GW589 := n4_; have GE589 := n5_; clear n0_ n1_ n2_ n3_ n4_ n5_; clear hb hbox hg; have hcz27_0 : w26.cell? ⟨gb589, 0, none⟩ = some (.int .i64 0) := (blk_cell BK589.out 0).trans rfl; have hcz27_1 : w26.cell? ⟨gb589, 1, none⟩ = some (.int .i64 0) := (blk_cell BK589.out 1).trans rfl; have hcz27_2 : w26.cell? ⟨gb589, 2, none⟩ = some (.int .i64 0) := (blk_cell BK589.out 2).trans rfl; have hcz27_3 : w26.cell? ⟨gb589, 3, none⟩ = some (.int .i64 0) := (blk_cell BK589.out 3).trans rfl; have hfz27_0 := blk_frozen BK589.out 0; have hfz27_1 := blk_frozen BK589.out 1; have hfz27_2 := blk_frozen BK589.out 2; have hfz27_3 := blk_frozen BK589.out 3) | ((with_reducible refine gate_builtin (b := .append) (xs := #[.tmp 38, .tmp 45]) rfl ?_); at_builtin; refine Kd.R_append k116 (w0 := w) w.heap.size rfl (.tmp 38) (.tmp 45) 50 116 (.agg #[(.int .i64 0), (.int .i64 0), (.int .i64 0)]) 24 rfl Try.underlying50 info116 rfl (by decide) (by omega) u8 x8_2 (⟨x9_2, wrap64 (((rd_T118 t585 x25_2).f0) - x9_2), 0⟩ : S116) [.int .i64 x9_2, .int .i64 (wrap64 (((rd_T118 t585 x25_2).f0) - x9_2)), .int .i64 0] (fun _ => True) (fun _ => False) rfl (by first | (go_simp; done) | (go_simp; rfl)) ?aP (fun _ hk => hk.elim) ?aF ?aO ?aB ?aS ?aL ?_; (case aP => exact k116_mkM _ _ _ (⟨x9_2, wrap64 (((rd_T118 t585 x25_2).f0) - x9_2), 0⟩ : S116)); (case aB => exact (by repeat (first | (with_reducible first | exact HB.out | apply below_alloc | apply pw_below_drewN | apply below_drew1 | refine below_set ?_ GE589.out) | exact HB.out))); (case aF => exact (fun _ _ => trivial)); (case aO => exact (by (with_reducible repeat (first | apply Kd.R_alloc | apply Kd.R_drewN | apply Kd.R_drew)); exact Kd.R_mono (Kd.R_far (p := ⟨gb589, 3, none⟩) (Kd.R_far (p := ⟨gb589, 2, none⟩) (Kd.R_far (p := ⟨gb589, 1, none⟩) (Kd.R_far (p := ⟨gb589, 0, none⟩) (Kd.R_types HO_8.out BK589.out (by decide)) (fun _ hk => hk.2) (.int .i64 ((rd_T118 t585 x25_2).f0))) (fun _ hk => hk.2) (.int .i64 ((rd_T118 t585 x25_2).f1))) (fun _ hk => hk.2) (.int .i64 ((rd_T118 t585 x25_2).f2))) (fun _ hk => hk.2) (.int .i64 ((rd_T118 t585 x25_2).f3))) (fun _ hk => trivial))); (case aS => exact (below_size (by repeat (first | (with_reducible first | exact HB.out | apply below_alloc | apply pw_below_drewN | apply below_drew1 | refine below_set ?_ GE589.out) | exact HB.out)))); (case aL => have := LMc24.out; omega); intro v594 w28 ho hb hg hat; rw [← Ny593.out] at ho; have n0_ := Aside0.mk (Kd.R_over' (by (with_reducible repeat (first | apply Kd.R_alloc | apply Kd.R_drewN | apply Kd.R_drew)); exact (Kd.R_mono (Kd.R_far (p := ⟨gb589, 3, none⟩) (Kd.R_far (p := ⟨gb589, 2, none⟩) (Kd.R_far (p := ⟨gb589, 1, none⟩) (Kd.R_far (p := ⟨gb589, 0, none⟩) (Kd.R_mono HO_23.out (fun k_ hk => (⟨hk, hk.2⟩ : _ ∧ k_ ≠ gb589))) (fun _ hk => hk.2) (.int .i64 ((rd_T118 t585 x25_2).f0))) (fun _ hk => hk.2) (.int .i64 ((rd_T118 t585 x25_2).f1))) (fun _ hk => hk.2) (.int .i64 ((rd_T118 t585 x25_2).f2))) (fun _ hk => hk.2) (.int .i64 ((rd_T118 t585 x25_2).f3))) (fun _ h_ => h_.1))) (Kd.R_typed (by (with_reducible repeat (first | apply Kd.R_alloc | apply Kd.R_drewN | apply Kd.R_drew)); exact (Kd.R_mono (Kd.R_far (p := ⟨gb589, 3, none⟩) (Kd.R_far (p := ⟨gb589, 2, none⟩) (Kd.R_far (p := ⟨gb589, 1, none⟩) (Kd.R_far (p := ⟨gb589, 0, none⟩) (Kd.R_types HO_8.out BK589.out (by decide)) (fun _ hk => hk.2) (.int .i64 ((rd_T118 t585 x25_2).f0))) (fun _ hk => hk.2) (.int .i64 ((rd_T118 t585 x25_2).f1))) (fun _ hk => hk.2) (.int .i64 ((rd_T118 t585 x25_2).f2))) (fun _ hk => hk.2) (.int .i64 ((rd_T118 t585 x25_2).f3))) (fun _ h_ => h_.1)))) (by decide) hg); have n1_ := Aside0.mk (blk_grown (g := gb589) (o := .cells #[.int .i64 ((rd_T118 t585 x25_2).f0), .int .i64 ((rd_T118 t585 x25_2).f1), .int .i64 ((rd_T118 t585 x25_2).f2), .int .i64 ((rd_T118 t585 x25_2).f3)] 118 (0, 0)) (by (with_reducible repeat (first | refine blk_drewN ?_ _ | refine blk_drew ?_ | refine blk_alloc ?_ _)); refine blk_put (cs := #[.int .i64 ((rd_T118 t585 x25_2).f0), .int .i64 ((rd_T118 t585 x25_2).f1), .int .i64 ((rd_T118 t585 x25_2).f2), .int .i64 0]) ?_ 3 _ rfl; (with_reducible repeat (first | refine blk_drewN ?_ _ | refine blk_drew ?_ | refine blk_alloc ?_ _)); refine blk_put (cs := #[.int .i64 ((rd_T118 t585 x25_2).f0), .int .i64 ((rd_T118 t585 x25_2).f1), .int .i64 0, .int .i64 0]) ?_ 2 _ rfl; (with_reducible repeat (first | refine blk_drewN ?_ _ | refine blk_drew ?_ | refine blk_alloc ?_ _)); refine blk_put (cs := #[.int .i64 ((rd_T118 t585 x25_2).f0), .int .i64 0, .int .i64 0, .int .i64 0]) ?_ 1 _ rfl; (with_reducible repeat (first | refine blk_drewN ?_ _ | refine blk_drew ?_ | refine blk_alloc ?_ _)); refine blk_put (cs := #[.int .i64 0, .int .i64 0, .int .i64 0, .int .i64 0]) ?_ 0 _ rfl; (with_reducible repeat (first | refine blk_drewN ?_ _ | refine blk_drew ?_ | refine blk_alloc ?_ _)); exact BK589.out) hg (Kd.R_ne HO_8.out BK589.out (by decide))); have n2_ := Aside0.mk (hb); have n3_ := Aside0.mk (ho); clear HO_23; clear BK589; clear HB; clear HO_8; have HO_23 := n0_; have BK589 := n1_; have HB := n2_; have HO595 := n3_; clear n0_ n1_ n2_ n3_; clear ho hb hg hat))
             have n0_ := Aside0.mk (Kd.R_drew HO_23.out)
             have n1_ := Aside0.mk (Kd.R_drew HO595.out)
             have n2_ := Aside0.mk (blk_drew BK589.out)
             have n3_ := Aside0.mk (below_drew1 HB.out)
             clear HO_23
             clear HO595
             clear BK589
             clear HB
             have HO_23 := n0_
             have HO595 := n1_
             have BK589 := n2_
             have HB := n3_
             clear n0_ n1_ n2_ n3_
             refine start_ (n := 17) (S := fun w' => w'.cell? ⟨gb589, 0, none⟩ = some (.int .i64 ((rd_T118 t585 x25_2).f0)) ∧ w'.cell? ⟨gb589, 1, none⟩ = some (.int .i64 ((rd_T118 t585 x25_2).f1)) ∧ w'.cell? ⟨gb589, 2, none⟩ = some (.int .i64 ((rd_T118 t585 x25_2).f2)) ∧ w'.cell? ⟨gb589, 3, none⟩ = some (.int .i64 ((rd_T118 t585 x25_2).f3))) (ds := []) #[false, false, false, false, false, false, false, false, false, false, false, false, false, false, false, false, false] (by kernel_rfl) rfl rfl ⟨(blk_cell BK589.out 0).trans rfl, (blk_cell BK589.out 1).trans rfl, (blk_cell BK589.out 2).trans rfl, (blk_cell BK589.out 3).trans rfl⟩ (fun hHeld => ?_); refine with_tabW impl_PartFrom.tab11 impl_PartFrom.bits11 (fun HT_ HW_ => ?_)
             generalize w28.drew = w29 at HO_23 HO595 BK589 HB hHeld ⊢
             refine pure_ (i := 0) (N := some 47) (v := ?_) (a' := ?_) #[true, false, false, false, false, false, false, false, false, false, false, false, false, false, false, false, false] rfl rfl (any_of HT_.out (by kernel_rfl)) (fun _ _ _ h => h) (Or.inl ⟨by rfl, ?_⟩) ?_ ?_
             rotate_left
             ·
              intro w'
              go_simp
              with_reducible rfl
             rotate_left
             ·
              simp only [Act.put, List.setIfInBounds_toArray, List.set_cons_zero, List.set_cons_succ, i64_w, i32_w]
              rfl
             refine pure_ (i := 1) (N := some 48) (v := ?_) (a' := ?_) #[true, true, false, false, false, false, false, false, false, false, false, false, false, false, false, false, false] rfl rfl (any_of HT_.out (by kernel_rfl)) (fun _ _ _ h => h) (Or.inl ⟨by rfl, ?_⟩) ?_ ?_
             rotate_left
             ·
              intro w'
              go_simp
              with_reducible rfl
             rotate_left
             ·
              simp only [Act.put, List.setIfInBounds_toArray, List.set_cons_zero, List.set_cons_succ, i64_w, i32_w]
              rfl
             refine pure_ (i := 3) (N := some 50) (v := ?_) (a' := ?_) #[true, true, false, true, false, false, false, false, false, false, false, false, false, false, false, false, false] rfl rfl (any_of HT_.out (by kernel_rfl)) (fun _ _ _ h => h) (Or.inl ⟨by rfl, ?_⟩) ?_ ?_
             rotate_left
             ·
              intro w'
              go_simp
              with_reducible rfl
             rotate_left
             ·
              simp only [Act.put, List.setIfInBounds_toArray, List.set_cons_zero, List.set_cons_succ, i64_w, i32_w]
              rfl
             refine pure_ (i := 5) (N := some 52) (v := ?_) (a' := ?_) #[true, true, false, true, false, true, false, false, false, false, false, false, false, false, false, false, false] rfl rfl (any_of HT_.out (by kernel_rfl)) (fun _ _ _ h => h) (Or.inl ⟨by rfl, ?_⟩) ?_ ?_
             rotate_left
             ·
              intro w'
              go_simp
              with_reducible rfl
             rotate_left
             ·
              simp only [Act.put, List.setIfInBounds_toArray, List.set_cons_zero, List.set_cons_succ, i64_w, i32_w]
              rfl
             refine pure_ (i := 10) (N := some 57) (v := ?_) (a' := ?_) #[true, true, false, true, false, true, false, false, false, false, true, false, false, false, false, false, false] rfl rfl (any_of HT_.out (by kernel_rfl)) (fun _ _ _ h => h) (Or.inl ⟨by rfl, ?_⟩) ?_ ?_
             rotate_left
             ·
              intro w'
              go_simp
              with_reducible rfl
             rotate_left
             ·
              simp only [Act.put, List.setIfInBounds_toArray, List.set_cons_zero, List.set_cons_succ, i64_w, i32_w]
              rfl
             refine pure_ (i := 12) (N := some 59) (v := ?_) (a' := ?_) #[true, true, false, true, false, true, false, false, false, false, true, false, true, false, false, false, false] rfl rfl (any_of HT_.out (by kernel_rfl)) (fun _ _ _ h => h) (Or.inl ⟨by rfl, ?_⟩) ?_ ?_
             rotate_left
             ·
              intro w'
              go_simp
              with_reducible rfl
             rotate_left
             ·
              simp only [Act.put, List.setIfInBounds_toArray, List.set_cons_zero, List.set_cons_succ, i64_w, i32_w]
              rfl
             refine take_ (i := 2) (N := some 49) (v := ?_) (a' := ?_) #[true, true, true, true, false, true, false, false, false, false, true, false, true, false, false, false, false] rfl rfl (take_ofW HT_.out HW_.out (by kernel_rfl)) (fun _ _ _ h => h) (Or.inl ⟨by rfl, ?_⟩) hHeld ?_ ?_
             rotate_left
             ·
              rintro w' ⟨s0, s1, s2, s3⟩
              go_simp
              with_reducible rfl
             rotate_left
             ·
              simp only [Act.put, List.setIfInBounds_toArray, List.set_cons_zero, List.set_cons_succ, i64_w, i32_w]
              rfl
             refine take_ (i := 4) (N := some 51) (v := ?_) (a' := ?_) #[true, true, true, true, true, true, false, false, false, false, true, false, true, false, false, false, false] rfl rfl (take_ofW HT_.out HW_.out (by kernel_rfl)) (fun _ _ _ h => h) (Or.inl ⟨by rfl, ?_⟩) hHeld ?_ ?_
             rotate_left
             ·
              rintro w' ⟨s0, s1, s2, s3⟩
              go_simp
              with_reducible rfl
             rotate_left
             ·
              simp only [Act.put, List.setIfInBounds_toArray, List.set_cons_zero, List.set_cons_succ, i64_w, i32_w]
              rfl
             refine take_ (i := 6) (N := some 53) (v := ?_) (a' := ?_) #[true, true, true, true, true, true, true, false, false, false, true, false, true, false, false, false, false] rfl rfl (take_ofW HT_.out HW_.out (by kernel_rfl)) (fun _ _ _ h => h) (Or.inl ⟨by rfl, ?_⟩) hHeld ?_ ?_
             rotate_left
             ·
              rintro w' ⟨s0, s1, s2, s3⟩
              go_simp
              with_reducible rfl
             rotate_left
             ·
              simp only [Act.put, List.setIfInBounds_toArray, List.set_cons_zero, List.set_cons_succ, i64_w, i32_w]
              rfl
             refine pure_ (i := 7) (N := some 54) (v := ?_) (a' := ?_) #[true, true, true, true, true, true, true, true, false, false, true, false, true, false, false, false, false] rfl rfl (any_of HT_.out (by kernel_rfl)) (fun _ _ _ h => h) (Or.inl ⟨by rfl, ?_⟩) ?_ ?_
             rotate_left
             ·
              intro w'
              go_simp
              with_reducible rfl
             rotate_left
             ·
              simp only [Act.put, List.setIfInBounds_toArray, List.set_cons_zero, List.set_cons_succ, i64_w, i32_w]
              rfl
             refine take_ (i := 11) (N := some 58) (v := ?_) (a' := ?_) #[true, true, true, true, true, true, true, true, false, false, true, true, true, false, false, false, false] rfl rfl (take_ofW HT_.out HW_.out (by kernel_rfl)) (fun _ _ _ h => h) (Or.inl ⟨by rfl, ?_⟩) hHeld ?_ ?_
             rotate_left
             ·
              rintro w' ⟨s0, s1, s2, s3⟩
              go_simp
              with_reducible rfl
             rotate_left
             ·
              simp only [Act.put, List.setIfInBounds_toArray, List.set_cons_zero, List.set_cons_succ, i64_w, i32_w]
              rfl
             refine take_ (i := 13) (N := some 60) (v := ?_) (a' := ?_) #[true, true, true, true, true, true, true, true, false, false, true, true, true, true, false, false, false] rfl rfl (take_ofW HT_.out HW_.out (by kernel_rfl)) (fun _ _ _ h => h) (Or.inl ⟨by rfl, ?_⟩) hHeld ?_ ?_
             rotate_left
             ·
              rintro w' ⟨s0, s1, s2, s3⟩
              go_simp
              with_reducible rfl
             rotate_left
             ·
              simp only [Act.put, List.setIfInBounds_toArray, List.set_cons_zero, List.set_cons_succ, i64_w, i32_w]
              rfl
             refine pure_ (i := 14) (N := some 61) (v := ?_) (a' := ?_) #[true, true, true, true, true, true, true, true, false, false, true, true, true, true, true, false, false] rfl rfl (any_of HT_.out (by kernel_rfl)) (fun _ _ _ h => h) (Or.inl ⟨by rfl, ?_⟩) ?_ ?_
             rotate_left
             ·
              intro w'
              go_simp
              with_reducible rfl
             rotate_left
             ·
              simp only [Act.put, List.setIfInBounds_toArray, List.set_cons_zero, List.set_cons_succ, i64_w, i32_w]
              rfl
             refine one_ (i := 8) (N := some 55) #[true, true, true, true, true, true, true, true, true, false, true, true, true, true, true, false, false] rfl rfl (one_of HT_.out (by kernel_rfl)) (by decide) (fun K hK => ?_)
             refine value_ (w1 := ?_) (v := ?_) (by rfl) rfl ?_ ?_
             rotate_left 2
             ·
              go_simp
              constructor
              ·
               rfl
              ·
               rfl
             refine hK.out _ _ ⟨(blk_cell (blk_alloc BK589.out _) 0).trans rfl, (blk_cell (blk_alloc BK589.out _) 1).trans rfl, (blk_cell (blk_alloc BK589.out _) 2).trans rfl, (blk_cell (blk_alloc BK589.out _) 3).trans rfl⟩ (fun hHeld => ?_)
             clear hK K
             refine norm_ (a' := ?_) ?_ ?_
             rotate_left
             ·
              show Act.put _ (some 55) _ = _
              simp only [Act.put, List.setIfInBounds_toArray, List.set_cons_zero, List.set_cons_succ, i64_w, i32_w]
              rfl
             refine one_ (i := 9) (N := some 56) #[true, true, true, true, true, true, true, true, true, true, true, true, true, true, true, false, false] rfl rfl (one_of HT_.out (by kernel_rfl)) (by decide) (fun K hK => ?_)
             refine Kd.R_append_step k116 (w0 := w) w.heap.size (by rfl) (.tmp 47) (.tmp 55) 50 116 (.agg #[(.int .i64 0), (.int .i64 0), (.int .i64 0)]) 24 rfl Try.underlying50 info116 rfl (by decide) (by omega) v594 y593 (⟨(rd_T118 t585 x25_2).f0, (rd_T118 t585 x25_2).f1, (rd_T118 t585 x25_2).f2⟩ : S116) [.int .i64 ((rd_T118 t585 x25_2).f0), .int .i64 ((rd_T118 t585 x25_2).f1), .int .i64 ((rd_T118 t585 x25_2).f2)] (fun _ => True) (fun _ => False) rfl rfl ?aP (fun _ hk => hk.elim) ?aF ?aO ?aB ?aS ?aL ?_
             (case aP => exact k116_mkM _ _ _ (⟨(rd_T118 t585 x25_2).f0, (rd_T118 t585 x25_2).f1, (rd_T118 t585 x25_2).f2⟩ : S116))
             (case aB => exact (by repeat (first | (with_reducible first | exact HB.out | apply below_alloc | apply pw_below_drewN | apply below_drew1 | refine below_set ?_ GE589.out) | exact HB.out)))
             (case aF => exact (fun _ _ => trivial))
             (case aO => exact (by (with_reducible repeat (first | apply Kd.R_alloc | apply Kd.R_drewN | apply Kd.R_drew)); exact HO595.out))
             (case aS => exact (below_size (by repeat (first | (with_reducible first | exact HB.out | apply below_alloc | apply pw_below_drewN | apply below_drew1 | refine below_set ?_ GE589.out) | exact HB.out))))
             (case aL => have := LMc25.out; omega)
             intro v597 w30 ho hb hg hat
             rw [← Ny596.out] at ho
             have n0_ := Aside0.mk (Kd.R_over' (by (with_reducible repeat (first | apply Kd.R_alloc | apply Kd.R_drewN | apply Kd.R_drew)); exact HO_23.out) (Kd.R_typed (by (with_reducible repeat (first | apply Kd.R_alloc | apply Kd.R_drewN | apply Kd.R_drew)); exact HO595.out)) (by decide) hg)
             have n1_ := Aside0.mk (blk_grown (g := gb589) (o := .cells #[.int .i64 ((rd_T118 t585 x25_2).f0), .int .i64 ((rd_T118 t585 x25_2).f1), .int .i64 ((rd_T118 t585 x25_2).f2), .int .i64 ((rd_T118 t585 x25_2).f3)] 118 (0, 0)) (by (with_reducible repeat (first | refine blk_drewN ?_ _ | refine blk_drew ?_ | refine blk_alloc ?_ _)); exact BK589.out) hg (Kd.R_ne HO595.out BK589.out (by decide)))
             have n2_ := Aside0.mk (hb)
             have n3_ := Aside0.mk (ho)
             clear HO_23
             clear BK589
             clear HB
             clear HO595
             have HO_23 := n0_
             have BK589 := n1_
             have HB := n2_
             have HO598 := n3_
             clear n0_ n1_ n2_ n3_
             clear ho hb hg hat
             refine hK.out _ _ ⟨(blk_cell BK589.out 0).trans rfl, (blk_cell BK589.out 1).trans rfl, (blk_cell BK589.out 2).trans rfl, (blk_cell BK589.out 3).trans rfl⟩ (fun hHeld => ?_)
             clear hK K
             refine norm_ (a' := ?_) ?_ ?_
             rotate_left
             ·
              show Act.put _ (some 56) _ = _
              simp only [Act.put, List.setIfInBounds_toArray, List.set_cons_zero, List.set_cons_succ, i64_w, i32_w]
              rfl
             refine pure_ (i := 15) (N := some 8) (v := ?_) (a' := ?_) #[true, true, true, true, true, true, true, true, true, true, true, true, true, true, true, true, false] rfl rfl (any_of HT_.out (by kernel_rfl)) (fun _ _ _ h => h) (Or.inl ⟨by rfl, ?_⟩) ?_ ?_
             rotate_left
             ·
              intro w'
              go_simp
              with_reducible rfl
             rotate_left
             ·
              simp only [Act.put, List.setIfInBounds_toArray, List.set_cons_zero, List.set_cons_succ, i64_w, i32_w]
              rfl
             refine pure_ (i := 16) (N := some 9) (v := ?_) (a' := ?_) #[true, true, true, true, true, true, true, true, true, true, true, true, true, true, true, true, true] rfl rfl (any_of HT_.out (by kernel_rfl)) (fun _ _ _ h => h) (Or.inl ⟨by rfl, ?_⟩) ?_ ?_
             rotate_left
             ·
              intro w'
              go_simp
              with_reducible rfl
             rotate_left
             ·
              simp only [Act.put, List.setIfInBounds_toArray, List.set_cons_zero, List.set_cons_succ, i64_w, i32_w]
              rfl
             refine done_ (done_of HT_.out (by kernel_rfl)) ?_
             try go_wp2
             go_roundg k2
             case measure => have := HJ3.out; have := HK2.out; omega
             case rel => exact ⟨(y596), (wrap64 (((rd_T118 t585 x25_2).f0) + ((rd_T118 t585 x25_2).f1))), (wrap64 (x25_2 + 1)), (by first | rfl | (simp; done) | (simp [*]; done)), (by first | rfl | (simp; done) | (simp [*]; done)), H', ⟨by have := HJ3.out; have := HK2.out; omega⟩, ⟨by (with_reducible repeat (first | apply Kd.R_alloc | apply Kd.R_drewN | apply Kd.R_drew)); exact HO598.out⟩, ⟨by (with_reducible repeat (first | apply Kd.R_alloc | apply Kd.R_drewN | apply Kd.R_drew)); exact Kd.R_mono HO_23.out (fun _ hk => trivial)⟩, ⟨by repeat (first | (with_reducible first | exact HB.out | apply below_alloc | apply pw_below_drewN | apply below_drew1 | refine below_set ?_ GE589.out) | exact HB.out)⟩⟩
            ·
             rw [if_neg c25] at H
             exact absurd H (by simp)
           ·
            rw [if_neg c24] at H
            exact absurd H (by simp)
          ·
           rw [if_neg c23] at H
           have c23b0 : decide (x9_2 < ((rd_T118 t585 x25_2).f0)) = false := decide_eq_false c23
           clear c23
           by_cases c31 : x8_2.length < 5864062014805
           ·
            rw [if_pos c31] at H
            have LMc31 := Aside0.mk c31
            clear c31
            obtain ⟨y599, hy599⟩ : ∃ y_ : List (S116), y_ = (x8_2 ++ [(⟨(rd_T118 t585 x25_2).f0, (rd_T118 t585 x25_2).f1, (rd_T118 t585 x25_2).f2⟩ : S116)]) := ⟨_, rfl⟩
            replace H : (impl_PartFrom.l0 k2 a2 y599 (wrap64 (((rd_T118 t585 x25_2).f0) + ((rd_T118 t585 x25_2).f1))) t585 (t585.length : Int) (wrap64 (x25_2 + 1))) = some (r1, r2) := by first | (rw [hy599]; with_reducible exact H) | (have H2_ := (Option.bind_some _ _).symm.trans H; rw [hy599]; with_reducible exact H2_) | (have H2_ := (Option.bind_some _ _).symm.trans H; with_reducible exact H2_) | with_reducible exact H | (rw [hy599]; exact H) | exact H
            have Ny599 := Aside0.mk hy599
            clear hy599
            have H' := Aside0.mk H
            clear H
            have p588 : 0 ≤ (x25_2 : Int) := of_decide_eq_true (by first | (with_reducible assumption) | assumption)
            have q588 : x25_2 < (t585.length : Int) := of_decide_eq_true (by first | (with_reducible assumption) | assumption)
            obtain ⟨ad588, e588, hx588_0, hx588_1, hx588_2, hx588_3⟩ := at_T118 (Kd.R_reads' HO_23.out).2.2 x25_2 p588 q588
            cases e588
            replace p588 := eq_true p588
            replace q588 := eq_true q588
            try go_wp2_with (first | ((with_reducible refine gate_dst (N := 11) rfl ?_); refine box_event ?hg (N := 11) ?hd (cs := #[.int .i64 0, .int .i64 0, .int .i64 0, .int .i64 0]) (t := 118) ?hr ?_; (case hd => rfl); (case hg => rfl); (case hr => first | (go_simp; done) | (go_simp; rfl)); intro gb589 hg w32 hbox hb; have n0_ := Aside0.mk (Kd.R_below (by (with_reducible repeat (first | apply Kd.R_alloc | apply Kd.R_drewN | apply Kd.R_drew)); exact HO_8.out) hb); have n1_ := Aside0.mk (Kd.R_below (Kd.R_elderB (by (with_reducible repeat (first | apply Kd.R_alloc | apply Kd.R_drewN | apply Kd.R_drew)); exact HO_23.out) gb589 (Nat.le_of_eq hg.symm)) hb); have n2_ := Aside0.mk (below_step (by repeat (first | (with_reducible first | exact HB.out | apply below_alloc | apply pw_below_drewN | apply below_drew1) | exact HB.out)) hb); have n3_ := Aside0.mk (hbox); have n4_ := Aside0.mk ((by rw [hg]; exact (below_size (by repeat (first | (with_reducible first | exact HB.out | apply below_alloc | apply pw_below_drewN | apply below_drew1) | exact HB.out))) : w.heap.size ≤ gb589)); have n5_ := Aside0.mk ((by rw [hg]; exact (below_size (by repeat (first | (with_reducible first | exact HB.out | apply below_alloc | apply pw_below_drewN | apply below_drew1) | exact HB.out))) : w.heap.size ≤ gb589)); clear HO_8; clear HO_23; clear HB; have HO_8 := n0_; have HO_23 := n1_; have HB := n2_; have BK589 := n3_; have GW589 := n4_; have GE589 := n5_; clear n0_ n1_ n2_ n3_ n4_ n5_; clear hb hbox hg; have hcz33_0 : w32.cell? ⟨gb589, 0, none⟩ = some (.int .i64 0) := (blk_cell BK589.out 0).trans rfl; have hcz33_1 : w32.cell? ⟨gb589, 1, none⟩ = some (.int .i64 0) := (blk_cell BK589.out 1).trans rfl; have hcz33_2 : w32.cell? ⟨gb589, 2, none⟩ = some (.int .i64 0) := (blk_cell BK589.out 2).trans rfl; have hcz33_3 : w32.cell? ⟨gb589, 3, none⟩ = some (.int .i64 0) := (blk_cell BK589.out 3).trans rfl; have hfz33_0 := blk_frozen BK589.out 0; have hfz33_1 := blk_frozen BK589.out 1; have hfz33_2 := blk_frozen BK589.out 2; have hfz33_3 := blk_frozen BK589.out 3))
            have n0_ : Aside0 (Kd.R k116 116 ((((w32.setCell ⟨gb589, 0, none⟩ (.int .i64 ((rd_T118 t585 x25_2).f0))).setCell ⟨gb589, 1, none⟩ (.int .i64 ((rd_T118 t585 x25_2).f1))).setCell ⟨gb589, 2, none⟩ (.int .i64 ((rd_T118 t585 x25_2).f2))).setCell ⟨gb589, 3, none⟩ (.int .i64 ((rd_T118 t585 x25_2).f3))) w.heap.size (fun _ => True) u8 x8_2) := ⟨by (with_reducible repeat (first | apply Kd.R_alloc | apply Kd.R_drewN | apply Kd.R_drew)); exact Kd.R_mono (Kd.R_far (p := ⟨gb589, 3, none⟩) (Kd.R_far (p := ⟨gb589, 2, none⟩) (Kd.R_far (p := ⟨gb589, 1, none⟩) (Kd.R_far (p := ⟨gb589, 0, none⟩) (Kd.R_types HO_8.out BK589.out (by decide)) (fun _ hk => hk.2) (.int .i64 ((rd_T118 t585 x25_2).f0))) (fun _ hk => hk.2) (.int .i64 ((rd_T118 t585 x25_2).f1))) (fun _ hk => hk.2) (.int .i64 ((rd_T118 t585 x25_2).f2))) (fun _ hk => hk.2) (.int .i64 ((rd_T118 t585 x25_2).f3))) (fun _ hk => trivial)⟩
            have n1_ : Aside0 (Kd.R k118 118 ((((w32.setCell ⟨gb589, 0, none⟩ (.int .i64 ((rd_T118 t585 x25_2).f0))).setCell ⟨gb589, 1, none⟩ (.int .i64 ((rd_T118 t585 x25_2).f1))).setCell ⟨gb589, 2, none⟩ (.int .i64 ((rd_T118 t585 x25_2).f2))).setCell ⟨gb589, 3, none⟩ (.int .i64 ((rd_T118 t585 x25_2).f3))) w.heap.size (fun k_ => k_ ≠ gb589) (.slice (some ad588) t585.length co14) t585) := ⟨by (with_reducible repeat (first | apply Kd.R_alloc | apply Kd.R_drewN | apply Kd.R_drew)); exact Kd.R_mono (Kd.R_far (p := ⟨gb589, 3, none⟩) (Kd.R_far (p := ⟨gb589, 2, none⟩) (Kd.R_far (p := ⟨gb589, 1, none⟩) (Kd.R_far (p := ⟨gb589, 0, none⟩) (Kd.R_mono HO_23.out (fun k_ hk => (⟨hk, hk.2⟩ : _ ∧ k_ ≠ gb589))) (fun _ hk => hk.2) (.int .i64 ((rd_T118 t585 x25_2).f0))) (fun _ hk => hk.2) (.int .i64 ((rd_T118 t585 x25_2).f1))) (fun _ hk => hk.2) (.int .i64 ((rd_T118 t585 x25_2).f2))) (fun _ hk => hk.2) (.int .i64 ((rd_T118 t585 x25_2).f3))) (fun _ hk => hk.1.2)⟩
            have n2_ : Aside0 (((((w32.setCell ⟨gb589, 0, none⟩ (.int .i64 ((rd_T118 t585 x25_2).f0))).setCell ⟨gb589, 1, none⟩ (.int .i64 ((rd_T118 t585 x25_2).f1))).setCell ⟨gb589, 2, none⟩ (.int .i64 ((rd_T118 t585 x25_2).f2))).setCell ⟨gb589, 3, none⟩ (.int .i64 ((rd_T118 t585 x25_2).f3))).heap[gb589]? = some (.cells #[.int .i64 ((rd_T118 t585 x25_2).f0), .int .i64 ((rd_T118 t585 x25_2).f1), .int .i64 ((rd_T118 t585 x25_2).f2), .int .i64 ((rd_T118 t585 x25_2).f3)] 118 (0, 0))) := ⟨by (with_reducible repeat (first | refine blk_drewN ?_ _ | refine blk_drew ?_ | refine blk_alloc ?_ _)); refine blk_put (cs := #[.int .i64 ((rd_T118 t585 x25_2).f0), .int .i64 ((rd_T118 t585 x25_2).f1), .int .i64 ((rd_T118 t585 x25_2).f2), .int .i64 0]) ?_ 3 _ rfl; (with_reducible repeat (first | refine blk_drewN ?_ _ | refine blk_drew ?_ | refine blk_alloc ?_ _)); refine blk_put (cs := #[.int .i64 ((rd_T118 t585 x25_2).f0), .int .i64 ((rd_T118 t585 x25_2).f1), .int .i64 0, .int .i64 0]) ?_ 2 _ rfl; (with_reducible repeat (first | refine blk_drewN ?_ _ | refine blk_drew ?_ | refine blk_alloc ?_ _)); refine blk_put (cs := #[.int .i64 ((rd_T118 t585 x25_2).f0), .int .i64 0, .int .i64 0, .int .i64 0]) ?_ 1 _ rfl; (with_reducible repeat (first | refine blk_drewN ?_ _ | refine blk_drew ?_ | refine blk_alloc ?_ _)); refine blk_put (cs := #[.int .i64 0, .int .i64 0, .int .i64 0, .int .i64 0]) ?_ 0 _ rfl; (with_reducible repeat (first | refine blk_drewN ?_ _ | refine blk_drew ?_ | refine blk_alloc ?_ _)); exact BK589.out⟩
            have n3_ : Aside0 (Below w.heap.size w ((((w32.setCell ⟨gb589, 0, none⟩ (.int .i64 ((rd_T118 t585 x25_2).f0))).setCell ⟨gb589, 1, none⟩ (.int .i64 ((rd_T118 t585 x25_2).f1))).setCell ⟨gb589, 2, none⟩ (.int .i64 ((rd_T118 t585 x25_2).f2))).setCell ⟨gb589, 3, none⟩ (.int .i64 ((rd_T118 t585 x25_2).f3)))) := ⟨by repeat (first | (with_reducible first | exact HB.out | apply below_alloc | apply pw_below_drewN | apply below_drew1 | refine below_set ?_ GE589.out) | exact HB.out)⟩
            (try clear HO_8)
            (try clear HO_23)
            (try clear BK589)
            (try clear HB)
            generalize ((((w32.setCell ⟨gb589, 0, none⟩ (.int .i64 ((rd_T118 t585 x25_2).f0))).setCell ⟨gb589, 1, none⟩ (.int .i64 ((rd_T118 t585 x25_2).f1))).setCell ⟨gb589, 2, none⟩ (.int .i64 ((rd_T118 t585 x25_2).f2))).setCell ⟨gb589, 3, none⟩ (.int .i64 ((rd_T118 t585 x25_2).f3))) = w34 at n0_ n1_ n2_ n3_ ⊢
            have HO_8 := n0_
            have HO_23 := n1_
            have BK589 := n2_
            have HB := n3_
            clear n0_ n1_ n2_ n3_
            have n0_ := Aside0.mk (Kd.R_drew HO_8.out)
            have n1_ := Aside0.mk (Kd.R_drew HO_23.out)
            have n2_ := Aside0.mk (blk_drew BK589.out)
            have n3_ := Aside0.mk (below_drew1 HB.out)
            clear HO_8
            clear HO_23
            clear BK589
            clear HB
            have HO_8 := n0_
            have HO_23 := n1_
            have BK589 := n2_
            have HB := n3_
            clear n0_ n1_ n2_ n3_
            refine start_ (n := 17) (S := fun w' => w'.cell? ⟨gb589, 0, none⟩ = some (.int .i64 ((rd_T118 t585 x25_2).f0)) ∧ w'.cell? ⟨gb589, 1, none⟩ = some (.int .i64 ((rd_T118 t585 x25_2).f1)) ∧ w'.cell? ⟨gb589, 2, none⟩ = some (.int .i64 ((rd_T118 t585 x25_2).f2)) ∧ w'.cell? ⟨gb589, 3, none⟩ = some (.int .i64 ((rd_T118 t585 x25_2).f3))) (ds := []) #[false, false, false, false, false, false, false, false, false, false, false, false, false, false, false, false, false] (by kernel_rfl) rfl rfl ⟨(blk_cell BK589.out 0).trans rfl, (blk_cell BK589.out 1).trans rfl, (blk_cell BK589.out 2).trans rfl, (blk_cell BK589.out 3).trans rfl⟩ (fun hHeld => ?_); refine with_tabW impl_PartFrom.tab11 impl_PartFrom.bits11 (fun HT_ HW_ => ?_)
            generalize w34.drew = w35 at HO_8 HO_23 BK589 HB hHeld ⊢
            refine pure_ (i := 0) (N := some 47) (v := ?_) (a' := ?_) #[true, false, false, false, false, false, false, false, false, false, false, false, false, false, false, false, false] rfl rfl (any_of HT_.out (by kernel_rfl)) (fun _ _ _ h => h) (Or.inl ⟨by rfl, ?_⟩) ?_ ?_
            rotate_left
            ·
             intro w'
             go_simp
             with_reducible rfl
            rotate_left
            ·
             simp only [Act.put, List.setIfInBounds_toArray, List.set_cons_zero, List.set_cons_succ, i64_w, i32_w]
             rfl
            refine pure_ (i := 1) (N := some 48) (v := ?_) (a' := ?_) #[true, true, false, false, false, false, false, false, false, false, false, false, false, false, false, false, false] rfl rfl (any_of HT_.out (by kernel_rfl)) (fun _ _ _ h => h) (Or.inl ⟨by rfl, ?_⟩) ?_ ?_
            rotate_left
            ·
             intro w'
             go_simp
             with_reducible rfl
            rotate_left
            ·
             simp only [Act.put, List.setIfInBounds_toArray, List.set_cons_zero, List.set_cons_succ, i64_w, i32_w]
             rfl
            refine pure_ (i := 3) (N := some 50) (v := ?_) (a' := ?_) #[true, true, false, true, false, false, false, false, false, false, false, false, false, false, false, false, false] rfl rfl (any_of HT_.out (by kernel_rfl)) (fun _ _ _ h => h) (Or.inl ⟨by rfl, ?_⟩) ?_ ?_
            rotate_left
            ·
             intro w'
             go_simp
             with_reducible rfl
            rotate_left
            ·
             simp only [Act.put, List.setIfInBounds_toArray, List.set_cons_zero, List.set_cons_succ, i64_w, i32_w]
             rfl
            refine pure_ (i := 5) (N := some 52) (v := ?_) (a' := ?_) #[true, true, false, true, false, true, false, false, false, false, false, false, false, false, false, false, false] rfl rfl (any_of HT_.out (by kernel_rfl)) (fun _ _ _ h => h) (Or.inl ⟨by rfl, ?_⟩) ?_ ?_
            rotate_left
            ·
             intro w'
             go_simp
             with_reducible rfl
            rotate_left
            ·
             simp only [Act.put, List.setIfInBounds_toArray, List.set_cons_zero, List.set_cons_succ, i64_w, i32_w]
             rfl
            refine pure_ (i := 10) (N := some 57) (v := ?_) (a' := ?_) #[true, true, false, true, false, true, false, false, false, false, true, false, false, false, false, false, false] rfl rfl (any_of HT_.out (by kernel_rfl)) (fun _ _ _ h => h) (Or.inl ⟨by rfl, ?_⟩) ?_ ?_
            rotate_left
            ·
             intro w'
             go_simp
             with_reducible rfl
            rotate_left
            ·
             simp only [Act.put, List.setIfInBounds_toArray, List.set_cons_zero, List.set_cons_succ, i64_w, i32_w]
             rfl
            refine pure_ (i := 12) (N := some 59) (v := ?_) (a' := ?_) #[true, true, false, true, false, true, false, false, false, false, true, false, true, false, false, false, false] rfl rfl (any_of HT_.out (by kernel_rfl)) (fun _ _ _ h => h) (Or.inl ⟨by rfl, ?_⟩) ?_ ?_
            rotate_left
            ·
             intro w'
             go_simp
             with_reducible rfl
            rotate_left
            ·
             simp only [Act.put, List.setIfInBounds_toArray, List.set_cons_zero, List.set_cons_succ, i64_w, i32_w]
             rfl
            refine take_ (i := 2) (N := some 49) (v := ?_) (a' := ?_) #[true, true, true, true, false, true, false, false, false, false, true, false, true, false, false, false, false] rfl rfl (take_ofW HT_.out HW_.out (by kernel_rfl)) (fun _ _ _ h => h) (Or.inl ⟨by rfl, ?_⟩) hHeld ?_ ?_
            rotate_left
            ·
             rintro w' ⟨s0, s1, s2, s3⟩
             go_simp
             with_reducible rfl
            rotate_left
            ·
             simp only [Act.put, List.setIfInBounds_toArray, List.set_cons_zero, List.set_cons_succ, i64_w, i32_w]
             rfl
            refine take_ (i := 4) (N := some 51) (v := ?_) (a' := ?_) #[true, true, true, true, true, true, false, false, false, false, true, false, true, false, false, false, false] rfl rfl (take_ofW HT_.out HW_.out (by kernel_rfl)) (fun _ _ _ h => h) (Or.inl ⟨by rfl, ?_⟩) hHeld ?_ ?_
            rotate_left
            ·
             rintro w' ⟨s0, s1, s2, s3⟩
             go_simp
             with_reducible rfl
            rotate_left
            ·
             simp only [Act.put, List.setIfInBounds_toArray, List.set_cons_zero, List.set_cons_succ, i64_w, i32_w]
             rfl
            refine take_ (i := 6) (N := some 53) (v := ?_) (a' := ?_) #[true, true, true, true, true, true, true, false, false, false, true, false, true, false, false, false, false] rfl rfl (take_ofW HT_.out HW_.out (by kernel_rfl)) (fun _ _ _ h => h) (Or.inl ⟨by rfl, ?_⟩) hHeld ?_ ?_
            rotate_left
            ·
             rintro w' ⟨s0, s1, s2, s3⟩
             go_simp
             with_reducible rfl
            rotate_left
            ·
             simp only [Act.put, List.setIfInBounds_toArray, List.set_cons_zero, List.set_cons_succ, i64_w, i32_w]
             rfl
            refine pure_ (i := 7) (N := some 54) (v := ?_) (a' := ?_) #[true, true, true, true, true, true, true, true, false, false, true, false, true, false, false, false, false] rfl rfl (any_of HT_.out (by kernel_rfl)) (fun _ _ _ h => h) (Or.inl ⟨by rfl, ?_⟩) ?_ ?_
            rotate_left
            ·
             intro w'
             go_simp
             with_reducible rfl
            rotate_left
            ·
             simp only [Act.put, List.setIfInBounds_toArray, List.set_cons_zero, List.set_cons_succ, i64_w, i32_w]
             rfl
            refine take_ (i := 11) (N := some 58) (v := ?_) (a' := ?_) #[true, true, true, true, true, true, true, true, false, false, true, true, true, false, false, false, false] rfl rfl (take_ofW HT_.out HW_.out (by kernel_rfl)) (fun _ _ _ h => h) (Or.inl ⟨by rfl, ?_⟩) hHeld ?_ ?_
            rotate_left
            ·
             rintro w' ⟨s0, s1, s2, s3⟩
             go_simp
             with_reducible rfl
            rotate_left
            ·
             simp only [Act.put, List.setIfInBounds_toArray, List.set_cons_zero, List.set_cons_succ, i64_w, i32_w]
             rfl
            refine take_ (i := 13) (N := some 60) (v := ?_) (a' := ?_) #[true, true, true, true, true, true, true, true, false, false, true, true, true, true, false, false, false] rfl rfl (take_ofW HT_.out HW_.out (by kernel_rfl)) (fun _ _ _ h => h) (Or.inl ⟨by rfl, ?_⟩) hHeld ?_ ?_
            rotate_left
            ·
             rintro w' ⟨s0, s1, s2, s3⟩
             go_simp
             with_reducible rfl
            rotate_left
            ·
             simp only [Act.put, List.setIfInBounds_toArray, List.set_cons_zero, List.set_cons_succ, i64_w, i32_w]
             rfl
            refine pure_ (i := 14) (N := some 61) (v := ?_) (a' := ?_) #[true, true, true, true, true, true, true, true, false, false, true, true, true, true, true, false, false] rfl rfl (any_of HT_.out (by kernel_rfl)) (fun _ _ _ h => h) (Or.inl ⟨by rfl, ?_⟩) ?_ ?_
            rotate_left
            ·
             intro w'
             go_simp
             with_reducible rfl
            rotate_left
            ·
             simp only [Act.put, List.setIfInBounds_toArray, List.set_cons_zero, List.set_cons_succ, i64_w, i32_w]
             rfl
            refine one_ (i := 8) (N := some 55) #[true, true, true, true, true, true, true, true, true, false, true, true, true, true, true, false, false] rfl rfl (one_of HT_.out (by kernel_rfl)) (by decide) (fun K hK => ?_)
            refine value_ (w1 := ?_) (v := ?_) (by rfl) rfl ?_ ?_
            rotate_left 2
            ·
             go_simp
             constructor
             ·
              rfl
             ·
              rfl
            refine hK.out _ _ ⟨(blk_cell (blk_alloc BK589.out _) 0).trans rfl, (blk_cell (blk_alloc BK589.out _) 1).trans rfl, (blk_cell (blk_alloc BK589.out _) 2).trans rfl, (blk_cell (blk_alloc BK589.out _) 3).trans rfl⟩ (fun hHeld => ?_)
            clear hK K
            refine norm_ (a' := ?_) ?_ ?_
            rotate_left
            ·
             show Act.put _ (some 55) _ = _
             simp only [Act.put, List.setIfInBounds_toArray, List.set_cons_zero, List.set_cons_succ, i64_w, i32_w]
             rfl
            refine one_ (i := 9) (N := some 56) #[true, true, true, true, true, true, true, true, true, true, true, true, true, true, true, false, false] rfl rfl (one_of HT_.out (by kernel_rfl)) (by decide) (fun K hK => ?_)
            refine Kd.R_append_step k116 (w0 := w) w.heap.size (by rfl) (.tmp 47) (.tmp 55) 50 116 (.agg #[(.int .i64 0), (.int .i64 0), (.int .i64 0)]) 24 rfl Try.underlying50 info116 rfl (by decide) (by omega) u8 x8_2 (⟨(rd_T118 t585 x25_2).f0, (rd_T118 t585 x25_2).f1, (rd_T118 t585 x25_2).f2⟩ : S116) [.int .i64 ((rd_T118 t585 x25_2).f0), .int .i64 ((rd_T118 t585 x25_2).f1), .int .i64 ((rd_T118 t585 x25_2).f2)] (fun _ => True) (fun _ => False) rfl rfl ?aP (fun _ hk => hk.elim) ?aF ?aO ?aB ?aS ?aL ?_
            (case aP => exact k116_mkM _ _ _ (⟨(rd_T118 t585 x25_2).f0, (rd_T118 t585 x25_2).f1, (rd_T118 t585 x25_2).f2⟩ : S116))
            (case aB => exact (by repeat (first | (with_reducible first | exact HB.out | apply below_alloc | apply pw_below_drewN | apply below_drew1 | refine below_set ?_ GE589.out) | exact HB.out)))
            (case aF => exact (fun _ _ => trivial))
            (case aO => exact (by (with_reducible repeat (first | apply Kd.R_alloc | apply Kd.R_drewN | apply Kd.R_drew)); exact HO_8.out))
            (case aS => exact (below_size (by repeat (first | (with_reducible first | exact HB.out | apply below_alloc | apply pw_below_drewN | apply below_drew1 | refine below_set ?_ GE589.out) | exact HB.out))))
            (case aL => have := LMc31.out; omega)
            intro v600 w36 ho hb hg hat
            rw [← Ny599.out] at ho
            have n0_ := Aside0.mk (Kd.R_over' (by (with_reducible repeat (first | apply Kd.R_alloc | apply Kd.R_drewN | apply Kd.R_drew)); exact HO_23.out) (Kd.R_typed (by (with_reducible repeat (first | apply Kd.R_alloc | apply Kd.R_drewN | apply Kd.R_drew)); exact HO_8.out)) (by decide) hg)
            have n1_ := Aside0.mk (blk_grown (g := gb589) (o := .cells #[.int .i64 ((rd_T118 t585 x25_2).f0), .int .i64 ((rd_T118 t585 x25_2).f1), .int .i64 ((rd_T118 t585 x25_2).f2), .int .i64 ((rd_T118 t585 x25_2).f3)] 118 (0, 0)) (by (with_reducible repeat (first | refine blk_drewN ?_ _ | refine blk_drew ?_ | refine blk_alloc ?_ _)); exact BK589.out) hg (Kd.R_ne HO_8.out BK589.out (by decide)))
            have n2_ := Aside0.mk (hb)
            have n3_ := Aside0.mk (ho)
            clear HO_23
            clear BK589
            clear HB
            clear HO_8
            have HO_23 := n0_
            have BK589 := n1_
            have HB := n2_
            have HO601 := n3_
            clear n0_ n1_ n2_ n3_
            clear ho hb hg hat
            refine hK.out _ _ ⟨(blk_cell BK589.out 0).trans rfl, (blk_cell BK589.out 1).trans rfl, (blk_cell BK589.out 2).trans rfl, (blk_cell BK589.out 3).trans rfl⟩ (fun hHeld => ?_)
            clear hK K
            refine norm_ (a' := ?_) ?_ ?_
            rotate_left
            ·
             show Act.put _ (some 56) _ = _
             simp only [Act.put, List.setIfInBounds_toArray, List.set_cons_zero, List.set_cons_succ, i64_w, i32_w]
             rfl
            refine pure_ (i := 15) (N := some 8) (v := ?_) (a' := ?_) #[true, true, true, true, true, true, true, true, true, true, true, true, true, true, true, true, false] rfl rfl (any_of HT_.out (by kernel_rfl)) (fun _ _ _ h => h) (Or.inl ⟨by rfl, ?_⟩) ?_ ?_
            rotate_left
            ·
             intro w'
             go_simp
             with_reducible rfl
            rotate_left
            ·
             simp only [Act.put, List.setIfInBounds_toArray, List.set_cons_zero, List.set_cons_succ, i64_w, i32_w]
             rfl
            refine pure_ (i := 16) (N := some 9) (v := ?_) (a' := ?_) #[true, true, true, true, true, true, true, true, true, true, true, true, true, true, true, true, true] rfl rfl (any_of HT_.out (by kernel_rfl)) (fun _ _ _ h => h) (Or.inl ⟨by rfl, ?_⟩) ?_ ?_
            rotate_left
            ·
             intro w'
             go_simp
             with_reducible rfl
            rotate_left
            ·
             simp only [Act.put, List.setIfInBounds_toArray, List.set_cons_zero, List.set_cons_succ, i64_w, i32_w]
             rfl
            refine done_ (done_of HT_.out (by kernel_rfl)) ?_
            try go_wp2
            go_roundg k2
            case measure => have := HJ3.out; have := HK2.out; omega
            case rel => exact ⟨(y599), (wrap64 (((rd_T118 t585 x25_2).f0) + ((rd_T118 t585 x25_2).f1))), (wrap64 (x25_2 + 1)), (by first | rfl | (simp; done) | (simp [*]; done)), (by first | rfl | (simp; done) | (simp [*]; done)), H', ⟨by have := HJ3.out; have := HK2.out; omega⟩, ⟨by (with_reducible repeat (first | apply Kd.R_alloc | apply Kd.R_drewN | apply Kd.R_drew)); exact HO601.out⟩, ⟨by (with_reducible repeat (first | apply Kd.R_alloc | apply Kd.R_drewN | apply Kd.R_drew)); exact Kd.R_mono HO_23.out (fun _ hk => trivial)⟩, ⟨by repeat (first | (with_reducible first | exact HB.out | apply below_alloc | apply pw_below_drewN | apply below_drew1 | refine below_set ?_ GE589.out) | exact HB.out)⟩⟩
           ·
            rw [if_neg c31] at H
            exact absurd H (by simp)
        ·
         rw [if_neg c17] at H
         exact absurd H (by simp)
       ·
        rw [if_neg c16] at H
        exact absurd H (by simp)
      ·
       rw [if_neg c15] at H
       have c15b0 : decide (x25_2 < (t585.length : Int)) = false := decide_eq_false c15
       clear c15
       by_cases c37 : a2 < x9_2
       ·
        rw [if_pos c37] at H
        have c37b0 : decide (a2 < x9_2) = true := decide_eq_true c37
        clear c37
        obtain ⟨y602, hy602⟩ : ∃ y_ : List (S116), y_ = (([] : List (S116))) := ⟨_, rfl⟩
        replace H : (some (y602, false)) = some (r1, r2) := by first | (rw [hy602]; with_reducible exact H) | (have H2_ := (Option.bind_some _ _).symm.trans H; rw [hy602]; with_reducible exact H2_) | (have H2_ := (Option.bind_some _ _).symm.trans H; with_reducible exact H2_) | with_reducible exact H | (rw [hy602]; exact H) | exact H
        have Ny602 := Aside0.mk hy602
        clear hy602
        simp only [Option.some.injEq, Prod.mk.injEq] at H
        obtain ⟨rfl, rfl⟩ := H
        go_wp2_with (first | ((with_reducible refine gate_dst (N := 66) rfl ?_); refine Kd.R_lit k116 _ 116 ?hg (N := 66) ?hd (xs := ([] : List (S116))) (inner := []) (ok := fun _ => True) (okp := fun _ => True) ?hr ?hp (fun _ hk => hk) trivial (Below.refl _ _) (Nat.le_refl _) (by simp) ?_; (case hd => rfl); (case hg => rfl); (case hr => first | (go_simp; done) | (go_simp; rfl)); (case hp => exact (Reps.none _ _)); intro v603 w38 ho39 hb hg_ hnew_; clear hg_ hnew_; (first | rw [← Ny602.out] at ho39 | (simp only [Int.reduceToNat] at ho39; rw [← Ny602.out] at ho39)); have n0_ := Aside0.mk (Kd.R_elder' (by (with_reducible repeat (first | apply Kd.R_alloc | apply Kd.R_drewN | apply Kd.R_drew)); exact HO_8.out) (Kd.R_base ho39) hb); have n1_ := Aside0.mk (Kd.R_below (by (with_reducible repeat (first | apply Kd.R_alloc | apply Kd.R_drewN | apply Kd.R_drew)); exact HO_23.out) hb); have n2_ := Aside0.mk (Kd.R_lower (Kd.R_new' ho39 (Kd.R_lt (by (with_reducible repeat (first | apply Kd.R_alloc | apply Kd.R_drewN | apply Kd.R_drew)); exact HO_8.out))) (below_size (by repeat (first | (with_reducible first | exact HB.out | apply below_alloc | apply pw_below_drewN | apply below_drew1) | exact HB.out)))); have n3_ := Aside0.mk (below_step (by repeat (first | (with_reducible first | exact HB.out | apply below_alloc | apply pw_below_drewN | apply below_drew1) | exact HB.out)) hb); clear HO_8; clear HO_23; clear HB; have HO_8 := n0_; have HO_23 := n1_; have HO604 := n2_; have HB := n3_; clear n0_ n1_ n2_ n3_; clear hb ho39))
        go_ret2
        exact ⟨_, by first | rfl | (simp [errW_none, errW_some] <;> rfl) | (simp [*, errW_none, errW_some] <;> rfl), by (with_reducible repeat (first | apply Kd.R_alloc | apply Kd.R_drewN | apply Kd.R_drew)); exact Kd.R_mono HO604.out (fun _ hk => trivial), by repeat (first | (with_reducible first | exact HB.out | apply below_alloc | apply pw_below_drewN | apply below_drew1) | exact HB.out)⟩
       ·
        rw [if_neg c37] at H
        have c37b0 : decide (a2 < x9_2) = false := decide_eq_false c37
        clear c37
        by_cases c40 : a2 > x9_2
        ·
         rw [if_pos c40] at H
         have c40b0 : decide (x9_2 < a2) = true := decide_eq_true c40
         clear c40
         by_cases c41 : x8_2.length < 5864062014805
         ·
          rw [if_pos c41] at H
          have LMc41 := Aside0.mk c41
          clear c41
          obtain ⟨y605, hy605⟩ : ∃ y_ : List (S116), y_ = (x8_2 ++ [(⟨x9_2, wrap64 (a2 - x9_2), 0⟩ : S116)]) := ⟨_, rfl⟩
          replace H : (some (y605, true)) = some (r1, r2) := by first | (rw [hy605]; with_reducible exact H) | (have H2_ := (Option.bind_some _ _).symm.trans H; rw [hy605]; with_reducible exact H2_) | (have H2_ := (Option.bind_some _ _).symm.trans H; with_reducible exact H2_) | with_reducible exact H | (rw [hy605]; exact H) | exact H
          have Ny605 := Aside0.mk hy605
          clear hy605
          simp only [Option.some.injEq, Prod.mk.injEq] at H
          obtain ⟨rfl, rfl⟩ := H
          go_wp2_with (first | ((with_reducible refine gate_builtin (b := .append) (xs := #[.tmp 70, .tmp 76]) rfl ?_); at_builtin; refine Kd.R_append k116 (w0 := w) w.heap.size rfl (.tmp 70) (.tmp 76) 50 116 (.agg #[(.int .i64 0), (.int .i64 0), (.int .i64 0)]) 24 rfl Try.underlying50 info116 rfl (by decide) (by omega) u8 x8_2 (⟨x9_2, wrap64 (a2 - x9_2), 0⟩ : S116) [.int .i64 x9_2, .int .i64 (wrap64 (a2 - x9_2)), .int .i64 0] (fun _ => True) (fun _ => False) rfl rfl ?aP (fun _ hk => hk.elim) ?aF ?aO ?aB ?aS ?aL ?_; (case aP => exact k116_mkM _ _ _ (⟨x9_2, wrap64 (a2 - x9_2), 0⟩ : S116)); (case aB => exact (by repeat (first | (with_reducible first | exact HB.out | apply below_alloc | apply pw_below_drewN | apply below_drew1) | exact HB.out))); (case aF => exact (fun _ _ => trivial)); (case aO => exact (by (with_reducible repeat (first | apply Kd.R_alloc | apply Kd.R_drewN | apply Kd.R_drew)); exact HO_8.out)); (case aS => exact (below_size (by repeat (first | (with_reducible first | exact HB.out | apply below_alloc | apply pw_below_drewN | apply below_drew1) | exact HB.out)))); (case aL => have := LMc41.out; omega); intro v606 w42 ho hb hg hat; rw [← Ny605.out] at ho; have n0_ := Aside0.mk (Kd.R_over' (by (with_reducible repeat (first | apply Kd.R_alloc | apply Kd.R_drewN | apply Kd.R_drew)); exact HO_23.out) (Kd.R_typed (by (with_reducible repeat (first | apply Kd.R_alloc | apply Kd.R_drewN | apply Kd.R_drew)); exact HO_8.out)) (by decide) hg); have n1_ := Aside0.mk (hb); have n2_ := Aside0.mk (ho); clear HO_23; clear HB; clear HO_8; have HO_23 := n0_; have HB := n1_; have HO607 := n2_; clear n0_ n1_ n2_; clear ho hb hg hat))
          go_ret2
          exact ⟨_, by first | rfl | (simp [errW_none, errW_some] <;> rfl) | (simp [*, errW_none, errW_some] <;> rfl), by (with_reducible repeat (first | apply Kd.R_alloc | apply Kd.R_drewN | apply Kd.R_drew)); exact HO607.out, by repeat (first | (with_reducible first | exact HB.out | apply below_alloc | apply pw_below_drewN | apply below_drew1) | exact HB.out)⟩
         ·
          rw [if_neg c41] at H
          exact absurd H (by simp)
        ·
         rw [if_neg c40] at H
         have c40b0 : decide (x9_2 < a2) = false := decide_eq_false c40
         clear c40
         simp only [Option.some.injEq, Prod.mk.injEq] at H
         obtain ⟨rfl, rfl⟩ := H
         go_wp2
         go_ret2
         exact ⟨_, by first | rfl | (simp [errW_none, errW_some] <;> rfl) | (simp [*, errW_none, errW_some] <;> rfl), by (with_reducible repeat (first | apply Kd.R_alloc | apply Kd.R_drewN | apply Kd.R_drew)); exact HO_8.out, by repeat (first | (with_reducible first | exact HB.out | apply below_alloc | apply pw_below_drewN | apply below_drew1) | exact HB.out)⟩

end Go.Proofs.Ytiophiipmgpaeaa.F

-- Written for this claim by the kit's print.py out of the translation, called by wip/tools/fprint.py. Lean checks it.
namespace Go.Proofs.Ytiophiipmgpaeaa.F
open Go.RowKit Go.Proofs.YtiophiipmgpaeaaW.PrintWords Go.Proofs.YtiophiipmgpaeaaW.PrintLast Go.Proofs.YtiophiipmgpaeaaW.PrintMore
attribute [local go_sem] max2_int min2_int max_two min_two max_three min_three max_four min_four   -- for this text's walks alone
set_option linter.unusedVariables false
set_option linter.unusedSimpArgs false

/-! ### laws_heldSignS: function 50 -/
def laws_heldSignS.l0 : Nat → List (S116) → Int → Int → Option (Int)
 | 0, _, _, _ => none
 | k + 1, x0, x1, x5 => if x5 < (x0.length : Int) then (if 0 ≤ x5 then (if ((rd_T116 x0 x5).f0) = x1 then (if ((rd_T116 x0 x5).f1) = (wrap64 (x1 + 1)) then (if ((rd_T116 x0 x5).f2) = (wrap64 ((wrap64 (x1 + 1)) + 1)) then (laws_heldSignS.l0 k x0 (wrap64 ((wrap64 ((wrap64 (x1 + 1)) + 1)) + 1)) (wrap64 (x5 + 1))) else (some (-1))) else (some (-1))) else (some (-1))) else (none)) else (some x1)
def laws_heldSignS.f (k : Nat) (l0 : List (S116)) (a1 : Int) : Option (Int) := laws_heldSignS.l0 k l0 a1 0
set_option maxHeartbeats 8000000 in
set_option maxRecDepth 100000 in
theorem laws_heldSignS.calls (k : Nat) (A0 : Option Addr) (c0 : Nat) (l0 : List (S116)) (a1 : Int) (r : Int) (w : World) (hr0 : Kd.C k116 w A0 l0.length l0) (hc0 : l0.length ≤ c0) (h : laws_heldSignS.f k l0 a1 = some r) :
  Calls Try.prog 50 #[.slice A0 l0.length c0, .int .i64 a1] w fun e w' => e = .returned (.int .i64 r) ∧ Drawn0 w w' := by
 have HR0 := Aside0.mk hr0
 have HC0 := Aside0.mk hc0
 clear hr0 hc0
 have H : (laws_heldSignS.l0 k l0 a1 0) = some r := h
 clear h
 have H' := Aside0.mk H
 clear H
 go_enter Try.func50, Try.ntmps50
 go_wp2
 go_loopg [1, 5] k (fun kq v1 v5 w' => ∃ (x1_1 : Int) (x5_1 : Int), v1 = .int .i64 x1_1 ∧ v5 = .int .i64 x5_1 ∧ Aside0 (laws_heldSignS.l0 kq l0 x1_1 x5_1 = some r) ∧ Aside0 (kq ≤ k) ∧ Drawn0 w w')
 case atStart => exact ⟨(a1), (0), (by first | rfl | (simp; done) | (simp [*]; done)), (by first | rfl | (simp; done) | (simp [*]; done)), H', ⟨Nat.le_refl _⟩, by repeat (first | exact Drawn0.refl _ | apply Drawn0.step)⟩
 case round =>
  clear H'
  try clear p2
  obtain ⟨x1_1, x5_1, rfl, rfl, HA, HK1, ⟨m1, rfl⟩⟩ := hrel
  cases gk with
  | zero => exact absurd HA.out (by simp [laws_heldSignS.l0])
  | succ k1 =>
   have H := HA.out
   clear HA
   simp only [laws_heldSignS.l0] at H
   by_cases c3 : x5_1 < (l0.length : Int)
   ·
    rw [if_pos c3] at H
    have c3b0 : decide (x5_1 < (l0.length : Int)) = true := decide_eq_true c3
    clear c3
    by_cases c4 : 0 ≤ x5_1
    ·
     rw [if_pos c4] at H
     have c4b0 : decide (0 ≤ x5_1) = true := decide_eq_true c4
     clear c4
     by_cases c5 : ((rd_T116 l0 x5_1).f0) = x1_1
     ·
      rw [if_pos c5] at H
      have c5b0 : (((rd_T116 l0 x5_1).f0) == x1_1) = true := beq_iff_eq.mpr c5
      have c5b1 : (((rd_T116 l0 x5_1).f0) != x1_1) = false := bne_eq_false_iff_eq.mpr c5
      clear c5
      by_cases c6 : ((rd_T116 l0 x5_1).f1) = (wrap64 (x1_1 + 1))
      ·
       rw [if_pos c6] at H
       have c6b0 : (((rd_T116 l0 x5_1).f1) == (wrap64 (x1_1 + 1))) = true := beq_iff_eq.mpr c6
       have c6b1 : (((rd_T116 l0 x5_1).f1) != (wrap64 (x1_1 + 1))) = false := bne_eq_false_iff_eq.mpr c6
       clear c6
       by_cases c7 : ((rd_T116 l0 x5_1).f2) = (wrap64 ((wrap64 (x1_1 + 1)) + 1))
       ·
        rw [if_pos c7] at H
        have c7b0 : (((rd_T116 l0 x5_1).f2) == (wrap64 ((wrap64 (x1_1 + 1)) + 1))) = true := beq_iff_eq.mpr c7
        have c7b1 : (((rd_T116 l0 x5_1).f2) != (wrap64 ((wrap64 (x1_1 + 1)) + 1))) = false := bne_eq_false_iff_eq.mpr c7
        clear c7
        have H' := Aside0.mk H
        clear H
        have p608 : 0 ≤ (x5_1 : Int) := of_decide_eq_true (by first | (with_reducible assumption) | assumption)
        have q608 : x5_1 < (l0.length : Int) := of_decide_eq_true (by first | (with_reducible assumption) | assumption)
        obtain ⟨ad608, e608, hx608_0, hx608_1, hx608_2⟩ := at_T116 HR0.out x5_1 p608 q608
        cases e608
        replace p608 := eq_true p608
        replace q608 := eq_true q608
        have p609 : 0 ≤ (x5_1 : Int) := of_decide_eq_true (by first | (with_reducible assumption) | assumption)
        have q609 : x5_1 < (l0.length : Int) := of_decide_eq_true (by first | (with_reducible assumption) | assumption)
        obtain ⟨ad609, e609, hx609_0, hx609_1, hx609_2⟩ := at_T116 HR0.out x5_1 p609 q609
        obtain rfl : ad608 = ad609 := (by injection e609)
        replace p609 := eq_true p609
        replace q609 := eq_true q609
        have p610 : 0 ≤ (x5_1 : Int) := of_decide_eq_true (by first | (with_reducible assumption) | assumption)
        have q610 : x5_1 < (l0.length : Int) := of_decide_eq_true (by first | (with_reducible assumption) | assumption)
        obtain ⟨ad610, e610, hx610_0, hx610_1, hx610_2⟩ := at_T116 HR0.out x5_1 p610 q610
        obtain rfl : ad608 = ad610 := (by injection e610)
        replace p610 := eq_true p610
        replace q610 := eq_true q610
        go_wp2
        go_roundg k1
        case measure => have := HK1.out; omega
        case rel => exact ⟨(wrap64 ((wrap64 ((wrap64 (x1_1 + 1)) + 1)) + 1)), (wrap64 (x5_1 + 1)), (by first | rfl | (simp; done) | (simp [*]; done)), (by first | rfl | (simp; done) | (simp [*]; done)), H', ⟨by have := HK1.out; omega⟩, by repeat (first | exact Drawn0.refl _ | apply Drawn0.step)⟩
       ·
        rw [if_neg c7] at H
        have c7b0 : (((rd_T116 l0 x5_1).f2) == (wrap64 ((wrap64 (x1_1 + 1)) + 1))) = false := beq_eq_false_iff_ne.mpr c7
        have c7b1 : (((rd_T116 l0 x5_1).f2) != (wrap64 ((wrap64 (x1_1 + 1)) + 1))) = true := bne_iff_ne.mpr c7
        obtain rfl := Option.some.inj H
        have p608 : 0 ≤ (x5_1 : Int) := of_decide_eq_true (by first | (with_reducible assumption) | assumption)
        have q608 : x5_1 < (l0.length : Int) := of_decide_eq_true (by first | (with_reducible assumption) | assumption)
        obtain ⟨ad608, e608, hx608_0, hx608_1, hx608_2⟩ := at_T116 HR0.out x5_1 p608 q608
        cases e608
        replace p608 := eq_true p608
        replace q608 := eq_true q608
        have p609 : 0 ≤ (x5_1 : Int) := of_decide_eq_true (by first | (with_reducible assumption) | assumption)
        have q609 : x5_1 < (l0.length : Int) := of_decide_eq_true (by first | (with_reducible assumption) | assumption)
        obtain ⟨ad609, e609, hx609_0, hx609_1, hx609_2⟩ := at_T116 HR0.out x5_1 p609 q609
        obtain rfl : ad608 = ad609 := (by injection e609)
        replace p609 := eq_true p609
        replace q609 := eq_true q609
        have p610 : 0 ≤ (x5_1 : Int) := of_decide_eq_true (by first | (with_reducible assumption) | assumption)
        have q610 : x5_1 < (l0.length : Int) := of_decide_eq_true (by first | (with_reducible assumption) | assumption)
        obtain ⟨ad610, e610, hx610_0, hx610_1, hx610_2⟩ := at_T116 HR0.out x5_1 p610 q610
        obtain rfl : ad608 = ad610 := (by injection e610)
        replace p610 := eq_true p610
        replace q610 := eq_true q610
        go_wp2
        go_ret
        exact ⟨by first | rfl | (simp; done) | (simp [*]; done), by repeat (first | exact Drawn0.refl _ | apply Drawn0.step)⟩
      ·
       rw [if_neg c6] at H
       have c6b0 : (((rd_T116 l0 x5_1).f1) == (wrap64 (x1_1 + 1))) = false := beq_eq_false_iff_ne.mpr c6
       have c6b1 : (((rd_T116 l0 x5_1).f1) != (wrap64 (x1_1 + 1))) = true := bne_iff_ne.mpr c6
       obtain rfl := Option.some.inj H
       have p608 : 0 ≤ (x5_1 : Int) := of_decide_eq_true (by first | (with_reducible assumption) | assumption)
       have q608 : x5_1 < (l0.length : Int) := of_decide_eq_true (by first | (with_reducible assumption) | assumption)
       obtain ⟨ad608, e608, hx608_0, hx608_1, hx608_2⟩ := at_T116 HR0.out x5_1 p608 q608
       cases e608
       replace p608 := eq_true p608
       replace q608 := eq_true q608
       have p609 : 0 ≤ (x5_1 : Int) := of_decide_eq_true (by first | (with_reducible assumption) | assumption)
       have q609 : x5_1 < (l0.length : Int) := of_decide_eq_true (by first | (with_reducible assumption) | assumption)
       obtain ⟨ad609, e609, hx609_0, hx609_1, hx609_2⟩ := at_T116 HR0.out x5_1 p609 q609
       obtain rfl : ad608 = ad609 := (by injection e609)
       replace p609 := eq_true p609
       replace q609 := eq_true q609
       go_wp2
       go_ret
       exact ⟨by first | rfl | (simp; done) | (simp [*]; done), by repeat (first | exact Drawn0.refl _ | apply Drawn0.step)⟩
     ·
      rw [if_neg c5] at H
      have c5b0 : (((rd_T116 l0 x5_1).f0) == x1_1) = false := beq_eq_false_iff_ne.mpr c5
      have c5b1 : (((rd_T116 l0 x5_1).f0) != x1_1) = true := bne_iff_ne.mpr c5
      obtain rfl := Option.some.inj H
      have p608 : 0 ≤ (x5_1 : Int) := of_decide_eq_true (by first | (with_reducible assumption) | assumption)
      have q608 : x5_1 < (l0.length : Int) := of_decide_eq_true (by first | (with_reducible assumption) | assumption)
      obtain ⟨ad608, e608, hx608_0, hx608_1, hx608_2⟩ := at_T116 HR0.out x5_1 p608 q608
      cases e608
      replace p608 := eq_true p608
      replace q608 := eq_true q608
      go_wp2
      go_ret
      exact ⟨by first | rfl | (simp; done) | (simp [*]; done), by repeat (first | exact Drawn0.refl _ | apply Drawn0.step)⟩
    ·
     rw [if_neg c4] at H
     exact absurd H (by simp)
   ·
    rw [if_neg c3] at H
    have c3b0 : decide (x5_1 < (l0.length : Int)) = false := decide_eq_false c3
    clear c3
    obtain rfl := Option.some.inj H
    go_wp2
    go_ret
    exact ⟨by first | rfl | (simp; done) | (simp [*]; done), by repeat (first | exact Drawn0.refl _ | apply Drawn0.step)⟩

end Go.Proofs.Ytiophiipmgpaeaa.F
