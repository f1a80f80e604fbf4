/- FnMoves, part 4 of 4: texts of the claim, joined into one file. -/
import Derived.Test.YtbhlmeghbfmgiaaZFnMoves3
import Derived.Deep.Slices
import Derived.Deep.Fields
import Derived.ChangeSame
import Derived.ChangeArms
import Derived.Lib.SmallJoins
import Derived.OpenShut
import Derived.Test.YtbhlmeghbfmgiaaWWords
import Derived.Test.YtbhlmeghbfmgiaaRows
import Derived.WalkKit
import Derived.ProofKit
import Derived.ShutString
import Derived.ChangeOld
import Derived.Below
import Derived.Carry
import Derived.SizedLaws

-- Written for this claim by the kit's print.py out of the translation, called by wip/tools/fprint.py. Lean checks it.
namespace Go.Proofs.Ytbhlmeghbfmgiaa.F
open Go.RowKit Go.Proofs.YtbhlmeghbfmgiaaW.PrintWords Go.Proofs.YtbhlmeghbfmgiaaW.PrintLast Go.Proofs.YtbhlmeghbfmgiaaW.PrintMore
attribute [local go_sem] max2_int min2_int max_two min_two max_three min_three max_four min_four   -- for this text's walks alone
set_option linter.unusedVariables false
set_option linter.unusedSimpArgs false

/-! ### impl_LowHigh: function 42 -/
mutual
def impl_LowHigh.j0 : Nat → List (S26) → Bool → Option (Int × Int)
 | 0, _, _ => none
 | k + 1, x0, x15 => if x15 = true then (some (0, 0)) else (if 0 < (x0.length : Int) then (impl_LowHigh.l0 k ((rd_T26 x0 0).f2) ((rd_T26 x0 0).f2) x0 (x0.length : Int) 0) else (none))
def impl_LowHigh.l0 : Nat → Int → Int → List (S26) → Int → Int → Option (Int × Int)
 | 0, _, _, _, _, _ => none
 | k + 1, x4, x5, x24, x25, x26 => if x26 < x25 then (if 0 ≤ x26 then (if x26 < (x24.length : Int) then (impl_LowHigh.l0 k (mn x4 ((rd_T26 x24 x26).f2)) (mx x5 ((rd_T26 x24 x26).f2)) x24 x25 (wrap64 (x26 + 1))) else (none)) else (none)) else (some (x4, x5))
end
def impl_LowHigh.f (k : Nat) (l0 : List (S26)) : Option (Int × Int) := (impl_IsScore.f k l0).bind fun t1181 => (if t1181 = true then (impl_LowHigh.j0 k l0 ((l0.length : Int) == 0)) else (impl_LowHigh.j0 k l0 true))
set_option maxHeartbeats 8000000 in
set_option maxRecDepth 100000 in
theorem impl_LowHigh.calls (k : Nat) (A0 : Option Addr) (c0 : Nat) (l0 : List (S26)) (r1 : Int) (r2 : Int) (w : World) (hr0 : Kd.C k26 w A0 l0.length l0) (hc0 : l0.length ≤ c0) (h : impl_LowHigh.f k l0 = some (r1, r2)) :
  Calls Try.prog 42 #[.slice A0 l0.length c0] w fun e w' => e = .returned (.tuple #[.int .i64 r1, .int .i64 r2]) ∧ Below w.heap.size w w' := by
 have hu26 := Try.underlying26
 have HR0 := Aside0.mk hr0
 have HC0 := Aside0.mk hc0
 clear hr0 hc0
 have HB := Aside0.mk (Below.refl w.heap.size w)
 have H : ((impl_IsScore.f k l0).bind fun t1181 => (if t1181 = true then (impl_LowHigh.j0 k l0 ((l0.length : Int) == 0)) else (impl_LowHigh.j0 k l0 true))) = some (r1, r2) := h
 clear h
 have HC2 := Aside0.mk H
 clear H
 go_enter Try.func42, Try.ntmps42
 go_upto_region 1 with (fail)
 repeat (go_quiet (fail); go_upto_region 1 with (fail))
 go_cut [15] (fun v15 wc => ∃ (kq : Nat) (x15_1 : Bool), v15 = .bool x15_1 ∧ Aside0 (impl_LowHigh.j0 kq l0 x15_1 = some (r1, r2)) ∧ Aside0 (kq ≤ k) ∧ Aside0 (Below w.heap.size w wc))
 case first =>
  have H := HC2.out
  clear HC2
  replace H := Option.bind_eq_some_iff.mp H
  obtain ⟨t1181, A30, H⟩ := H
  try dsimp only at H
  have A3 := Aside0.mk A30
  clear A30
  by_cases c4 : t1181 = true
  ·
   subst c4
   rw [if_pos rfl] at H
   have H' := Aside0.mk H
   clear H
   go_wp2_with (first | (go_at_call 14; (with_reducible refine (impl_IsScore.calls k _ _ l0 true _ ?side1 ?side2 A3.out).mono ?_); (case side1 => repeat (first | exact (Kd.C_below HR0.out HB.out) | (with_reducible refine Kd.C_alloc ?_ _) | (with_reducible refine Kd.C_drewN ?_ _) | (with_reducible refine Kd.C_drew ?_))); (case side2 => exact HC0.out); rintro e w5 ⟨rfl, hb⟩; have n0_ := Aside0.mk (below_step (by repeat (first | (with_reducible first | exact HB.out | apply below_alloc | apply pw_below_drewN | apply below_drew1) | exact HB.out)) hb); clear HB; have HB := n0_; clear n0_; (try clear hb); (try clear hb2); (try clear hk); (try clear hi)))
   repeat (go_quiet (first | (go_at_call 14; (with_reducible refine (impl_IsScore.calls k _ _ l0 true _ ?side1 ?side2 A3.out).mono ?_); (case side1 => repeat (first | exact (Kd.C_below HR0.out HB.out) | (with_reducible refine Kd.C_alloc ?_ _) | (with_reducible refine Kd.C_drewN ?_ _) | (with_reducible refine Kd.C_drew ?_))); (case side2 => exact HC0.out); rintro e w5 ⟨rfl, hb⟩; have n0_ := Aside0.mk (below_step (by repeat (first | (with_reducible first | exact HB.out | apply below_alloc | apply pw_below_drewN | apply below_drew1) | exact HB.out)) hb); clear HB; have HB := n0_; clear n0_; (try clear hb); (try clear hb2); (try clear hk); (try clear hi))); try go_wp2_with (first | (go_at_call 14; (with_reducible refine (impl_IsScore.calls k _ _ l0 true _ ?side1 ?side2 A3.out).mono ?_); (case side1 => repeat (first | exact (Kd.C_below HR0.out HB.out) | (with_reducible refine Kd.C_alloc ?_ _) | (with_reducible refine Kd.C_drewN ?_ _) | (with_reducible refine Kd.C_drew ?_))); (case side2 => exact HC0.out); rintro e w5 ⟨rfl, hb⟩; have n0_ := Aside0.mk (below_step (by repeat (first | (with_reducible first | exact HB.out | apply below_alloc | apply pw_below_drewN | apply below_drew1) | exact HB.out)) hb); clear HB; have HB := n0_; clear n0_; (try clear hb); (try clear hb2); (try clear hk); (try clear hi))))
   go_meet
   case rel => exact ⟨_, (((l0.length : Int) == 0)), (by first | rfl | (simp; done) | (simp [*]; done)), H', ⟨by first | omega | exact Nat.le_refl _⟩, ⟨by repeat (first | (with_reducible first | exact HB.out | apply below_alloc | apply pw_below_drewN | apply below_drew1) | exact HB.out)⟩⟩
  ·
   replace c4 := Bool.eq_false_iff.mpr c4
   subst c4
   rw [if_neg (show ¬ (false = true) by decide)] at H
   have H' := Aside0.mk H
   clear H
   go_wp2_with (first | (go_at_call 14; (with_reducible refine (impl_IsScore.calls k _ _ l0 false _ ?side1 ?side2 A3.out).mono ?_); (case side1 => repeat (first | exact (Kd.C_below HR0.out HB.out) | (with_reducible refine Kd.C_alloc ?_ _) | (with_reducible refine Kd.C_drewN ?_ _) | (with_reducible refine Kd.C_drew ?_))); (case side2 => exact HC0.out); rintro e w6 ⟨rfl, hb⟩; have n0_ := Aside0.mk (below_step (by repeat (first | (with_reducible first | exact HB.out | apply below_alloc | apply pw_below_drewN | apply below_drew1) | exact HB.out)) hb); clear HB; have HB := n0_; clear n0_; (try clear hb); (try clear hb2); (try clear hk); (try clear hi)))
   repeat (go_quiet (first | (go_at_call 14; (with_reducible refine (impl_IsScore.calls k _ _ l0 false _ ?side1 ?side2 A3.out).mono ?_); (case side1 => repeat (first | exact (Kd.C_below HR0.out HB.out) | (with_reducible refine Kd.C_alloc ?_ _) | (with_reducible refine Kd.C_drewN ?_ _) | (with_reducible refine Kd.C_drew ?_))); (case side2 => exact HC0.out); rintro e w6 ⟨rfl, hb⟩; have n0_ := Aside0.mk (below_step (by repeat (first | (with_reducible first | exact HB.out | apply below_alloc | apply pw_below_drewN | apply below_drew1) | exact HB.out)) hb); clear HB; have HB := n0_; clear n0_; (try clear hb); (try clear hb2); (try clear hk); (try clear hi))); try go_wp2_with (first | (go_at_call 14; (with_reducible refine (impl_IsScore.calls k _ _ l0 false _ ?side1 ?side2 A3.out).mono ?_); (case side1 => repeat (first | exact (Kd.C_below HR0.out HB.out) | (with_reducible refine Kd.C_alloc ?_ _) | (with_reducible refine Kd.C_drewN ?_ _) | (with_reducible refine Kd.C_drew ?_))); (case side2 => exact HC0.out); rintro e w6 ⟨rfl, hb⟩; have n0_ := Aside0.mk (below_step (by repeat (first | (with_reducible first | exact HB.out | apply below_alloc | apply pw_below_drewN | apply below_drew1) | exact HB.out)) hb); clear HB; have HB := n0_; clear n0_; (try clear hb); (try clear hb2); (try clear hk); (try clear hi))))
   go_meet
   case rel => exact ⟨_, (true), (by first | rfl | (simp; done) | (simp [*]; done)), H', ⟨by first | omega | exact Nat.le_refl _⟩, ⟨by repeat (first | (with_reducible first | exact HB.out | apply below_alloc | apply pw_below_drewN | apply below_drew1) | exact HB.out)⟩⟩
 case rest =>
  clear HC2
  try clear p2
  try clear c4
  obtain ⟨kq, x15_1, rfl, HA, HJ1, HB⟩ := hcut
  cases kq with
  | zero => exact absurd HA.out (by simp [impl_LowHigh.j0])
  | succ kj1 =>
   have H := HA.out
   clear HA
   simp only [impl_LowHigh.j0] at H
   by_cases c7 : x15_1 = true
   ·
    subst c7
    rw [if_pos rfl] at H
    simp only [Option.some.injEq, Prod.mk.injEq] at H
    obtain ⟨rfl, rfl⟩ := H
    go_wp2
    repeat (go_quiet (fail); try go_wp2)
    go_ret2
    exact ⟨by first | rfl | (simp [errW_none, errW_some] <;> rfl) | (simp [*, errW_none, errW_some] <;> rfl), by repeat (first | (with_reducible first | exact HB.out | apply below_alloc | apply pw_below_drewN | apply below_drew1) | exact HB.out)⟩
   ·
    replace c7 := Bool.eq_false_iff.mpr c7
    subst c7
    rw [if_neg (show ¬ (false = true) by decide)] at H
    by_cases c8 : 0 < (l0.length : Int)
    ·
     rw [if_pos c8] at H
     have c8b0 : decide (0 < (l0.length : Int)) = true := decide_eq_true c8
     have c8b1 : decide (0 < l0.length) = true := decide_eq_true (by omega)
     clear c8
     have H' := Aside0.mk H
     clear H
     have p1182 : 0 ≤ (0 : Int) := (by omega)
     have q1182 : 0 < (l0.length : Int) := of_decide_eq_true (by first | (with_reducible assumption) | assumption)
     obtain ⟨ad1182, e1182, hx1182_0, hx1182_1, hx1182_2, hx1182_3⟩ := at_T26 HR0.out 0 p1182 q1182
     cases e1182
     have qi1182 : (0 < l0.length) = True := eq_true (by omega)
     (try rw [show ((0 : Int)).toNat = 0 from rfl] at hx1182_0)
     (try rw [show 0 * 4 = 0 from rfl] at hx1182_0)
     (try rw [Addr.add_zero'] at hx1182_0)
     (try rw [show ((0 : Int)).toNat = 0 from rfl] at hx1182_1)
     (try rw [show 0 * 4 = 0 from rfl] at hx1182_1)
     (try rw [Addr.add_zero'] at hx1182_1)
     (try rw [show ((0 : Int)).toNat = 0 from rfl] at hx1182_2)
     (try rw [show 0 * 4 = 0 from rfl] at hx1182_2)
     (try rw [Addr.add_zero'] at hx1182_2)
     (try rw [show ((0 : Int)).toNat = 0 from rfl] at hx1182_3)
     (try rw [show 0 * 4 = 0 from rfl] at hx1182_3)
     (try rw [Addr.add_zero'] at hx1182_3)
     replace hx1182_0 := (HB.out.cell (World.block_lt_of_cell? w _ hx1182_0)).trans hx1182_0
     replace hx1182_1 := (HB.out.cell (World.block_lt_of_cell? w _ hx1182_1)).trans hx1182_1
     replace hx1182_2 := (HB.out.cell (World.block_lt_of_cell? w _ hx1182_2)).trans hx1182_2
     replace hx1182_3 := (HB.out.cell (World.block_lt_of_cell? w _ hx1182_3)).trans hx1182_3
     replace p1182 := eq_true p1182
     replace q1182 := eq_true q1182
     have p1183 : 0 ≤ (0 : Int) := (by omega)
     have q1183 : 0 < (l0.length : Int) := of_decide_eq_true (by first | (with_reducible assumption) | assumption)
     obtain ⟨ad1183, e1183, hx1183_0, hx1183_1, hx1183_2, hx1183_3⟩ := at_T26 HR0.out 0 p1183 q1183
     obtain rfl : ad1182 = ad1183 := (by injection e1183)
     have qi1183 : (0 < l0.length) = True := eq_true (by omega)
     (try rw [show ((0 : Int)).toNat = 0 from rfl] at hx1183_0)
     (try rw [show 0 * 4 = 0 from rfl] at hx1183_0)
     (try rw [Addr.add_zero'] at hx1183_0)
     (try rw [show ((0 : Int)).toNat = 0 from rfl] at hx1183_1)
     (try rw [show 0 * 4 = 0 from rfl] at hx1183_1)
     (try rw [Addr.add_zero'] at hx1183_1)
     (try rw [show ((0 : Int)).toNat = 0 from rfl] at hx1183_2)
     (try rw [show 0 * 4 = 0 from rfl] at hx1183_2)
     (try rw [Addr.add_zero'] at hx1183_2)
     (try rw [show ((0 : Int)).toNat = 0 from rfl] at hx1183_3)
     (try rw [show 0 * 4 = 0 from rfl] at hx1183_3)
     (try rw [Addr.add_zero'] at hx1183_3)
     replace hx1183_0 := (HB.out.cell (World.block_lt_of_cell? w _ hx1183_0)).trans hx1183_0
     replace hx1183_1 := (HB.out.cell (World.block_lt_of_cell? w _ hx1183_1)).trans hx1183_1
     replace hx1183_2 := (HB.out.cell (World.block_lt_of_cell? w _ hx1183_2)).trans hx1183_2
     replace hx1183_3 := (HB.out.cell (World.block_lt_of_cell? w _ hx1183_3)).trans hx1183_3
     replace p1183 := eq_true p1183
     replace q1183 := eq_true q1183
     go_wp2
     repeat (go_quiet (fail); try go_wp2)
     go_loopg [4, 5, 26] kj1 (fun kq v4 v5 v26 w' => ∃ (x4_2 : Int) (x5_2 : Int) (x26_2 : Int), v4 = .int .i64 x4_2 ∧ v5 = .int .i64 x5_2 ∧ v26 = .int .i64 x26_2 ∧ Aside0 (impl_LowHigh.l0 kq x4_2 x5_2 l0 (l0.length : Int) x26_2 = some (r1, r2)) ∧ Aside0 (kq ≤ kj1) ∧ Aside0 (Below w.heap.size w w'))
     case atStart => exact ⟨((rd_T26 l0 0).f2), ((rd_T26 l0 0).f2), (0), (by first | rfl | (simp; done) | (simp [*]; done)), (by first | rfl | (simp; done) | (simp [*]; done)), (by first | rfl | (simp; done) | (simp [*]; done)), H', ⟨Nat.le_refl _⟩, ⟨by repeat (first | (with_reducible first | exact HB.out | apply below_alloc | apply pw_below_drewN | apply below_drew1) | exact HB.out)⟩⟩
     case round =>
      clear H'
      try clear p1
      try clear q1
      try clear hx1
      try clear qi1
      try clear p2
      try clear c4
      try clear c7
      try clear c8
      try clear c8b0
      try clear c8b1
      try clear hx1182_0
      try clear hx1182_1
      try clear hx1182_2
      try clear hx1182_3
      try clear hx1183_0
      try clear hx1183_1
      try clear hx1183_2
      try clear hx1183_3
      try clear p1182
      try clear p1183
      try clear p2
      try clear q1182
      try clear q1183
      obtain ⟨x4_2, x5_2, x26_2, rfl, rfl, rfl, HA, HK2, HB⟩ := hrel
      cases gk with
      | zero => exact absurd HA.out (by simp [impl_LowHigh.l0])
      | succ k2 =>
       have H := HA.out
       clear HA
       simp only [impl_LowHigh.l0] at H
       by_cases c9 : x26_2 < (l0.length : Int)
       ·
        rw [if_pos c9] at H
        have c9b0 : decide (x26_2 < (l0.length : Int)) = true := decide_eq_true c9
        clear c9
        by_cases c10 : 0 ≤ x26_2
        ·
         rw [if_pos c10] at H
         have c10b0 : decide (0 ≤ x26_2) = true := decide_eq_true c10
         clear c10
         by_cases c11 : x26_2 < (l0.length : Int)
         ·
          rw [if_pos c11] at H
          have c11b0 : decide (x26_2 < (l0.length : Int)) = true := decide_eq_true c11
          clear c11
          obtain ⟨ji12, hji12⟩ : ∃ j_ : Int, (mn x4_2 ((rd_T26 l0 x26_2).f2)) = j_ := ⟨_, rfl⟩
          replace H : (impl_LowHigh.l0 k2 ji12 (mx x5_2 ((rd_T26 l0 x26_2).f2)) l0 (l0.length : Int) (wrap64 (x26_2 + 1))) = some (r1, r2) := by first | (rw [hji12] at H; exact H) | (simp only [hji12] at H ⊢; exact H)
          have hji12_ : (if ((rd_T26 l0 x26_2).f2) < x4_2 then ((rd_T26 l0 x26_2).f2) else x4_2) = ji12 := hji12
          obtain ⟨ji13, hji13⟩ : ∃ j_ : Int, (mx x5_2 ((rd_T26 l0 x26_2).f2)) = j_ := ⟨_, rfl⟩
          replace H : (impl_LowHigh.l0 k2 ji12 ji13 l0 (l0.length : Int) (wrap64 (x26_2 + 1))) = some (r1, r2) := by first | (rw [hji13] at H; exact H) | (simp only [hji13] at H ⊢; exact H)
          have hji13_ : (if x5_2 < ((rd_T26 l0 x26_2).f2) then ((rd_T26 l0 x26_2).f2) else x5_2) = ji13 := hji13
          have H' := Aside0.mk H
          clear H
          have p1184 : 0 ≤ (x26_2 : Int) := of_decide_eq_true (by first | (with_reducible assumption) | assumption)
          have q1184 : x26_2 < (l0.length : Int) := of_decide_eq_true (by first | (with_reducible assumption) | assumption)
          obtain ⟨ad1184, e1184, hx1184_0, hx1184_1, hx1184_2, hx1184_3⟩ := at_T26 HR0.out x26_2 p1184 q1184
          obtain rfl : ad1182 = ad1184 := (by injection e1184)
          replace hx1184_0 := (HB.out.cell (World.block_lt_of_cell? w _ hx1184_0)).trans hx1184_0
          replace hx1184_1 := (HB.out.cell (World.block_lt_of_cell? w _ hx1184_1)).trans hx1184_1
          replace hx1184_2 := (HB.out.cell (World.block_lt_of_cell? w _ hx1184_2)).trans hx1184_2
          replace hx1184_3 := (HB.out.cell (World.block_lt_of_cell? w _ hx1184_3)).trans hx1184_3
          replace p1184 := eq_true p1184
          replace q1184 := eq_true q1184
          go_wp2_with (first | ((with_reducible refine gate_dst (N := 7) rfl ?_); (try (refine gate_guard (by rfl) ?_; dsimp only)); refine box_event ?hg (N := 7) ?hd (cs := #[.int .i64 0, .int .i64 0, .int .i64 0, .int .i64 0]) (t := 26) ?hr ?_; (case hd => rfl); (case hg => rfl); (case hr => first | (go_simp; done) | (go_simp; rfl)); intro gb1185 hg w14 hbox hb; have n0_ := Aside0.mk (below_step (by repeat (first | (with_reducible first | exact HB.out | apply below_alloc | apply pw_below_drewN | apply below_drew1) | exact HB.out)) hb); have n1_ := Aside0.mk (hbox); have n2_ := Aside0.mk ((by rw [hg]; exact (below_size (by repeat (first | (with_reducible first | exact HB.out | apply below_alloc | apply pw_below_drewN | apply below_drew1) | exact HB.out))) : w.heap.size ≤ gb1185)); have n3_ := Aside0.mk ((by rw [hg]; exact (below_size (by repeat (first | (with_reducible first | exact HB.out | apply below_alloc | apply pw_below_drewN | apply below_drew1) | exact HB.out))) : w.heap.size ≤ gb1185)); clear HB; have HB := n0_; have BK1185 := n1_; have GW1185 := n2_; have GE1185 := n3_; clear n0_ n1_ n2_ n3_; clear hb hbox hg; have hcz15_0 : w14.cell? ⟨gb1185, 0, none⟩ = some (.int .i64 0) := (blk_cell BK1185.out 0).trans rfl; have hcz15_1 : w14.cell? ⟨gb1185, 1, none⟩ = some (.int .i64 0) := (blk_cell BK1185.out 1).trans rfl; have hcz15_2 : w14.cell? ⟨gb1185, 2, none⟩ = some (.int .i64 0) := (blk_cell BK1185.out 2).trans rfl; have hcz15_3 : w14.cell? ⟨gb1185, 3, none⟩ = some (.int .i64 0) := (blk_cell BK1185.out 3).trans rfl; have hfz15_0 := blk_frozen BK1185.out 0; have hfz15_1 := blk_frozen BK1185.out 1; have hfz15_2 := blk_frozen BK1185.out 2; have hfz15_3 := blk_frozen BK1185.out 3))
          repeat (go_quiet (first | ((with_reducible refine gate_dst (N := 7) rfl ?_); (try (refine gate_guard (by rfl) ?_; dsimp only)); refine box_event ?hg (N := 7) ?hd (cs := #[.int .i64 0, .int .i64 0, .int .i64 0, .int .i64 0]) (t := 26) ?hr ?_; (case hd => rfl); (case hg => rfl); (case hr => first | (go_simp; done) | (go_simp; rfl)); intro gb1185 hg w14 hbox hb; have n0_ := Aside0.mk (below_step (by repeat (first | (with_reducible first | exact HB.out | apply below_alloc | apply pw_below_drewN | apply below_drew1) | exact HB.out)) hb); have n1_ := Aside0.mk (hbox); have n2_ := Aside0.mk ((by rw [hg]; exact (below_size (by repeat (first | (with_reducible first | exact HB.out | apply below_alloc | apply pw_below_drewN | apply below_drew1) | exact HB.out))) : w.heap.size ≤ gb1185)); have n3_ := Aside0.mk ((by rw [hg]; exact (below_size (by repeat (first | (with_reducible first | exact HB.out | apply below_alloc | apply pw_below_drewN | apply below_drew1) | exact HB.out))) : w.heap.size ≤ gb1185)); clear HB; have HB := n0_; have BK1185 := n1_; have GW1185 := n2_; have GE1185 := n3_; clear n0_ n1_ n2_ n3_; clear hb hbox hg; have hcz15_0 : w14.cell? ⟨gb1185, 0, none⟩ = some (.int .i64 0) := (blk_cell BK1185.out 0).trans rfl; have hcz15_1 : w14.cell? ⟨gb1185, 1, none⟩ = some (.int .i64 0) := (blk_cell BK1185.out 1).trans rfl; have hcz15_2 : w14.cell? ⟨gb1185, 2, none⟩ = some (.int .i64 0) := (blk_cell BK1185.out 2).trans rfl; have hcz15_3 : w14.cell? ⟨gb1185, 3, none⟩ = some (.int .i64 0) := (blk_cell BK1185.out 3).trans rfl; have hfz15_0 := blk_frozen BK1185.out 0; have hfz15_1 := blk_frozen BK1185.out 1; have hfz15_2 := blk_frozen BK1185.out 2; have hfz15_3 := blk_frozen BK1185.out 3)); try go_wp2_with (first | ((with_reducible refine gate_dst (N := 7) rfl ?_); (try (refine gate_guard (by rfl) ?_; dsimp only)); refine box_event ?hg (N := 7) ?hd (cs := #[.int .i64 0, .int .i64 0, .int .i64 0, .int .i64 0]) (t := 26) ?hr ?_; (case hd => rfl); (case hg => rfl); (case hr => first | (go_simp; done) | (go_simp; rfl)); intro gb1185 hg w14 hbox hb; have n0_ := Aside0.mk (below_step (by repeat (first | (with_reducible first | exact HB.out | apply below_alloc | apply pw_below_drewN | apply below_drew1) | exact HB.out)) hb); have n1_ := Aside0.mk (hbox); have n2_ := Aside0.mk ((by rw [hg]; exact (below_size (by repeat (first | (with_reducible first | exact HB.out | apply below_alloc | apply pw_below_drewN | apply below_drew1) | exact HB.out))) : w.heap.size ≤ gb1185)); have n3_ := Aside0.mk ((by rw [hg]; exact (below_size (by repeat (first | (with_reducible first | exact HB.out | apply below_alloc | apply pw_below_drewN | apply below_drew1) | exact HB.out))) : w.heap.size ≤ gb1185)); clear HB; have HB := n0_; have BK1185 := n1_; have GW1185 := n2_; have GE1185 := n3_; clear n0_ n1_ n2_ n3_; clear hb hbox hg; have hcz15_0 : w14.cell? ⟨gb1185, 0, none⟩ = some (.int .i64 0) := (blk_cell BK1185.out 0).trans rfl; have hcz15_1 : w14.cell? ⟨gb1185, 1, none⟩ = some (.int .i64 0) := (blk_cell BK1185.out 1).trans rfl; have hcz15_2 : w14.cell? ⟨gb1185, 2, none⟩ = some (.int .i64 0) := (blk_cell BK1185.out 2).trans rfl; have hcz15_3 : w14.cell? ⟨gb1185, 3, none⟩ = some (.int .i64 0) := (blk_cell BK1185.out 3).trans rfl; have hfz15_0 := blk_frozen BK1185.out 0; have hfz15_1 := blk_frozen BK1185.out 1; have hfz15_2 := blk_frozen BK1185.out 2; have hfz15_3 := blk_frozen BK1185.out 3)))
          go_roundg k2
          case measure => have := HJ1.out; have := HK2.out; omega
          case rel => exact ⟨(ji12), (ji13), (wrap64 (x26_2 + 1)), (by first | rfl | (simp; done) | (simp only [← hji12] <;> (first | rfl | simp)) | (simp [*]; done)), (by first | rfl | (simp; done) | (simp only [← hji13] <;> (first | rfl | simp)) | (simp [*]; done)), (by first | rfl | (simp; done) | (simp [*]; done)), H', ⟨by have := HJ1.out; have := HK2.out; omega⟩, ⟨by repeat (first | (with_reducible first | exact HB.out | apply below_alloc | apply pw_below_drewN | apply below_drew1 | refine below_set ?_ GE1185.out) | exact HB.out)⟩⟩
         ·
          rw [if_neg c11] at H
          exact absurd H (by simp)
        ·
         rw [if_neg c10] at H
         exact absurd H (by simp)
       ·
        rw [if_neg c9] at H
        have c9b0 : decide (x26_2 < (l0.length : Int)) = false := decide_eq_false c9
        clear c9
        simp only [Option.some.injEq, Prod.mk.injEq] at H
        obtain ⟨rfl, rfl⟩ := H
        go_wp2
        repeat (go_quiet (fail); try go_wp2)
        go_ret2
        exact ⟨by first | rfl | (simp [errW_none, errW_some] <;> rfl) | (simp [*, errW_none, errW_some] <;> rfl), by repeat (first | (with_reducible first | exact HB.out | apply below_alloc | apply pw_below_drewN | apply below_drew1) | exact HB.out)⟩
    ·
     rw [if_neg c8] at H
     exact absurd H (by simp)

end Go.Proofs.Ytbhlmeghbfmgiaa.F

-- Written for this claim by the kit's print.py out of the translation, called by wip/tools/fprint.py. Lean checks it.
namespace Go.Proofs.Ytbhlmeghbfmgiaa.F
open Go.RowKit Go.Proofs.YtbhlmeghbfmgiaaW.PrintWords Go.Proofs.YtbhlmeghbfmgiaaW.PrintLast Go.Proofs.YtbhlmeghbfmgiaaW.PrintMore
attribute [local go_sem] max2_int min2_int max_two min_two max_three min_three max_four min_four   -- for this text's walks alone
set_option linter.unusedVariables false
set_option linter.unusedSimpArgs false

/-! ### spec_DrawFitsRange: function 44 -/
def spec_DrawFitsRange.f (k : Nat) (l0 : List Int) : Option ((List (S26)) × Int × Int) := (spec_l1New.f k l0).bind fun bt1186 => ((spec_l8Any.f k bt1186.1 bt1186.2.1 bt1186.2.2).bind fun bt1190 => ((spec_LowHigh.f k bt1190.1).bind fun bt1195 => ((spec_l1Below.f bt1186.1 bt1190.2.1 bt1190.2.2 3).bind fun bt1197 => ((spec_l1Below.f bt1186.1 bt1197.2.1 bt1197.2.2 3).bind fun bt1200 => (some (bt1190.1, wrap64 ((wrap64 (bt1195.1 + bt1197.1)) - 1), wrap64 ((wrap64 (bt1195.2 + bt1200.1)) - 1)))))))
set_option maxHeartbeats 8000000 in
set_option maxRecDepth 100000 in
theorem spec_DrawFitsRange.calls (k : Nat) (A0 : Option Addr) (c0 : Nat) (l0 : List Int) (r1 : List (S26)) (r2 : Int) (r3 : Int) (w : World) (hr0 : Kd.C (Kd.int .u8) w A0 l0.length l0) (hc0 : l0.length ≤ c0) (h : spec_DrawFitsRange.f k l0 = some (r1, r2, r3)) :
  Calls Try.prog 44 #[.slice A0 l0.length c0] w fun e w' => ∃ v0_ : Value, e = .returned (.tuple #[v0_, .int .i64 r2, .int .i64 r3]) ∧ Kd.R k26 26 w' w.heap.size (fun _ => True) v0_ r1 ∧ Below w.heap.size w w' := by
 have HR0 := Aside0.mk hr0
 have HC0 := Aside0.mk hc0
 clear hr0 hc0
 have HB := Aside0.mk (Below.refl w.heap.size w)
 have H : ((spec_l1New.f k l0).bind fun bt1186 => ((spec_l8Any.f k bt1186.1 bt1186.2.1 bt1186.2.2).bind fun bt1190 => ((spec_LowHigh.f k bt1190.1).bind fun bt1195 => ((spec_l1Below.f bt1186.1 bt1190.2.1 bt1190.2.2 3).bind fun bt1197 => ((spec_l1Below.f bt1186.1 bt1197.2.1 bt1197.2.2 3).bind fun bt1200 => (some (bt1190.1, wrap64 ((wrap64 (bt1195.1 + bt1197.1)) - 1), wrap64 ((wrap64 (bt1195.2 + bt1200.1)) - 1)))))))) = some (r1, r2, r3) := h
 clear h
 replace H := Option.bind_eq_some_iff.mp H
 obtain ⟨⟨t1186, t1187, t1188⟩, A20, H⟩ := H
 try dsimp only at H
 have A2 := Aside0.mk A20
 clear A20
 replace H := Option.bind_eq_some_iff.mp H
 obtain ⟨⟨t1190, t1193, t1194⟩, A30, H⟩ := H
 try dsimp only at H
 have A3 := Aside0.mk A30
 clear A30
 replace H := Option.bind_eq_some_iff.mp H
 obtain ⟨⟨t1195, t1196⟩, A40, H⟩ := H
 try dsimp only at H
 have A4 := Aside0.mk A40
 clear A40
 replace H := Option.bind_eq_some_iff.mp H
 obtain ⟨⟨t1197, t1198, t1199⟩, A50, H⟩ := H
 try dsimp only at H
 have A5 := Aside0.mk A50
 clear A50
 replace H := Option.bind_eq_some_iff.mp H
 obtain ⟨⟨t1200, t1201, t1202⟩, A60, H⟩ := H
 try dsimp only at H
 have A6 := Aside0.mk A60
 clear A60
 simp only [Option.some.injEq, Prod.mk.injEq] at H
 obtain ⟨rfl, rfl, rfl⟩ := H
 go_enter Try.func44, Try.ntmps44
 go_wp2_with (first | ((with_reducible refine gate_callee (f := 74) rfl ?_); refine goesL_ (some 10) rfl rfl Try.func74 (by kernel_rfl) rfl #[.slice A0 l0.length c0] rfl (by (try simp only [List.map_toArray, List.map_cons, List.map_nil]); first | done | rfl | (simp only [List.length_drop, List.length_take]; rfl)) ?_; (with_reducible refine (spec_l1New.calls k _ _ l0 t1186 t1187 t1188 w _ ?side1 ?side2 ?side3 A2.out).mono ?_); (case side1 => repeat (first | (with_reducible first | exact HB.out | apply below_alloc | apply pw_below_drewN | apply below_drew1) | exact HB.out)); (case side2 => exact HR0.out); (case side3 => exact HC0.out); rintro e w7 ⟨g1189, rfl, hi, hb, hb2⟩; refine ⟨_, rfl, ?_⟩; have n0_ := Aside0.mk (hb); have n1_ := Aside0.mk (hi); clear HB; have HB := n0_; have HI1189 := n1_; clear n0_ n1_; (try clear hb); (try clear hb2); (try clear hk); (try clear hi)) | ((with_reducible refine gate_callee (f := 75) rfl ?_); refine goesL_ (some 12) rfl rfl Try.func75 (by kernel_rfl) rfl #[.pointer (some ⟨g1189, 0, none⟩)] rfl (by (try simp only [List.map_toArray, List.map_cons, List.map_nil]); first | done | rfl | (simp only [List.length_drop, List.length_take]; rfl)) ?_; (with_reducible refine (spec_l8Any.calls k g1189 t1186 t1187 t1188 t1190 t1193 t1194 w _ ?side1 ?side2 A3.out).mono ?_); (case side1 => repeat (first | (with_reducible first | exact HI1189.out | apply IsS157.alloc | apply IsS157.drewN | apply IsS157.drew | apply IsS157.set_1 | apply IsS157.set_2) | exact HI1189.out)); (case side2 => repeat (first | (with_reducible first | exact HB.out | apply below_alloc | apply pw_below_drewN | apply below_drew1 | refine below_set ?_ (IsS157.ge HI1189.out)) | exact HB.out)); rintro e w8 ⟨v1191, rfl, ho0, hi, hb, hk⟩; refine ⟨_, rfl, ?_⟩; have n0_ := Aside0.mk (Kd.R_lower ho0 (below_size (by repeat (first | (with_reducible first | exact HB.out | apply below_alloc | apply pw_below_drewN | apply below_drew1 | refine below_set ?_ (IsS157.ge HI1189.out)) | exact HB.out)))); have n1_ := Aside0.mk (hb); have n2_ := Aside0.mk (hi); clear HB; clear HI1189; have HO1192 := n0_; have HB := n1_; have HI1189 := n2_; clear n0_ n1_ n2_; (try clear hb); (try clear hb2); (try clear hk); (try clear hi); (try clear ho0); obtain ⟨Ao9, co9, eo9⟩ := Kd.R_slice HO1192.out; subst eo9) | ((with_reducible refine gate_callee (f := 112) rfl ?_); refine goesL_ (some 15) rfl rfl Try.func112 (by kernel_rfl) rfl #[.slice Ao9 t1190.length co9] rfl (by (try simp only [List.map_toArray, List.map_cons, List.map_nil]); first | done | rfl | (simp only [List.length_drop, List.length_take]; rfl)) ?_; (with_reducible refine (spec_LowHigh.calls k _ _ t1190 t1195 t1196 _ ?side1 ?side2 A4.out).mono ?_); (case side1 => repeat (first | exact (Kd.R_reads' HO1192.out).2.2 | (with_reducible refine Kd.C_alloc ?_ _) | (with_reducible refine Kd.C_drewN ?_ _) | (with_reducible refine Kd.C_drew ?_))); (case side2 => exact (Kd.R_reads' HO1192.out).2.1); rintro e w10 ⟨rfl, hb⟩; refine ⟨_, rfl, ?_⟩; have n0_ := Aside0.mk (Kd.R_below (by (with_reducible repeat (first | apply Kd.R_alloc | apply Kd.R_drewN | apply Kd.R_drew)); exact HO1192.out) hb); have n1_ := Aside0.mk (IsS157.below (by repeat (first | (with_reducible first | exact HI1189.out | apply IsS157.alloc | apply IsS157.drewN | apply IsS157.drew | apply IsS157.set_1 | apply IsS157.set_2) | exact HI1189.out)) hb); have n2_ := Aside0.mk (below_step (by repeat (first | (with_reducible first | exact HB.out | apply below_alloc | apply pw_below_drewN | apply below_drew1 | refine below_set ?_ (IsS157.ge HI1189.out)) | exact HB.out)) hb); clear HO1192; clear HI1189; clear HB; have HO1192 := n0_; have HI1189 := n1_; have HB := n2_; clear n0_ n1_ n2_; (try clear hb); (try clear hb2); (try clear hk); (try clear hi)) | ((with_reducible refine gate_callee (f := 91) rfl ?_); refine goesL_ (some 21) rfl rfl Try.func91 (by kernel_rfl) rfl #[.pointer (some ⟨g1189, 0, none⟩), .int .i64 3] rfl (by (try simp only [List.map_toArray, List.map_cons, List.map_nil]); first | done | rfl | (simp only [List.length_drop, List.length_take]; rfl)) ?_; (with_reducible refine (spec_l1Below.calls g1189 t1186 t1193 t1194 3 t1197 t1198 t1199 w _ ?side1 ?side2 A5.out).mono ?_); (case side1 => repeat (first | (with_reducible first | exact HI1189.out | apply IsS157.alloc | apply IsS157.drewN | apply IsS157.drew | apply IsS157.set_1 | apply IsS157.set_2) | exact HI1189.out)); (case side2 => repeat (first | (with_reducible first | exact HB.out | apply below_alloc | apply pw_below_drewN | apply below_drew1 | refine below_set ?_ (IsS157.ge HI1189.out)) | exact HB.out)); rintro e w11 ⟨rfl, hi, hb, hk⟩; refine ⟨_, rfl, ?_⟩; have n0_ := Aside0.mk (Kd.R_mono (Kd.R_keep (IsS157.apart (show IsS157 w _ g1189 t1186 t1193 t1194 from by repeat (first | (with_reducible first | exact HI1189.out | apply IsS157.alloc | apply IsS157.drewN | apply IsS157.drew | apply IsS157.set_1 | apply IsS157.set_2) | exact HI1189.out)) (by (with_reducible repeat (first | apply Kd.R_alloc | apply Kd.R_drewN | apply Kd.R_drew)); exact HO1192.out) (by decide)) hk (fun _ h => h.2)) (fun _ h => h.1)); have n1_ := Aside0.mk (hb); have n2_ := Aside0.mk (hi); clear HO1192; clear HB; clear HI1189; have HO1192 := n0_; have HB := n1_; have HI1189 := n2_; clear n0_ n1_ n2_; (try clear hb); (try clear hb2); (try clear hk); (try clear hi)) | ((with_reducible refine gate_callee (f := 91) rfl ?_); refine goesL_ (some 26) rfl rfl Try.func91 (by kernel_rfl) rfl #[.pointer (some ⟨g1189, 0, none⟩), .int .i64 3] rfl (by (try simp only [List.map_toArray, List.map_cons, List.map_nil]); first | done | rfl | (simp only [List.length_drop, List.length_take]; rfl)) ?_; (with_reducible refine (spec_l1Below.calls g1189 t1186 t1198 t1199 3 t1200 t1201 t1202 w _ ?side1 ?side2 A6.out).mono ?_); (case side1 => repeat (first | (with_reducible first | exact HI1189.out | apply IsS157.alloc | apply IsS157.drewN | apply IsS157.drew | apply IsS157.set_1 | apply IsS157.set_2) | exact HI1189.out)); (case side2 => repeat (first | (with_reducible first | exact HB.out | apply below_alloc | apply pw_below_drewN | apply below_drew1 | refine below_set ?_ (IsS157.ge HI1189.out)) | exact HB.out)); rintro e w12 ⟨rfl, hi, hb, hk⟩; refine ⟨_, rfl, ?_⟩; have n0_ := Aside0.mk (Kd.R_mono (Kd.R_keep (IsS157.apart (show IsS157 w _ g1189 t1186 t1198 t1199 from by repeat (first | (with_reducible first | exact HI1189.out | apply IsS157.alloc | apply IsS157.drewN | apply IsS157.drew | apply IsS157.set_1 | apply IsS157.set_2) | exact HI1189.out)) (by (with_reducible repeat (first | apply Kd.R_alloc | apply Kd.R_drewN | apply Kd.R_drew)); exact HO1192.out) (by decide)) hk (fun _ h => h.2)) (fun _ h => h.1)); have n1_ := Aside0.mk (hb); have n2_ := Aside0.mk (hi); clear HO1192; clear HB; clear HI1189; have HO1192 := n0_; have HB := n1_; have HI1189 := n2_; clear n0_ n1_ n2_; (try clear hb); (try clear hb2); (try clear hk); (try clear hi)))
 go_ret3
 exact ⟨_, by first | rfl | (simp [errW_none, errW_some] <;> rfl) | (simp [*, errW_none, errW_some] <;> rfl), by (with_reducible repeat (first | apply Kd.R_alloc | apply Kd.R_drewN | apply Kd.R_drew)); exact HO1192.out, by repeat (first | (with_reducible first | exact HB.out | apply below_alloc | apply pw_below_drewN | apply below_drew1 | refine below_set ?_ (IsS157.ge HI1189.out)) | exact HB.out)⟩

end Go.Proofs.Ytbhlmeghbfmgiaa.F

-- Written for this claim by the kit's print.py out of the translation, called by wip/tools/fprint.py. Lean checks it.
namespace Go.Proofs.Ytbhlmeghbfmgiaa.F
open Go.RowKit Go.Proofs.YtbhlmeghbfmgiaaW.PrintWords Go.Proofs.YtbhlmeghbfmgiaaW.PrintLast Go.Proofs.YtbhlmeghbfmgiaaW.PrintMore
attribute [local go_sem] max2_int min2_int max_two min_two max_three min_three max_four min_four   -- for this text's walks alone
set_option linter.unusedVariables false
set_option linter.unusedSimpArgs false

/-! ### laws_FnMoves: function 6 -/
mutual
def laws_FnMoves.j0 : Nat → List Int → Option (Bool)
 | 0, _ => none
 | k + 1, x0 => (spec_DrawOctaveFit.f k x0).bind fun bt1221 => ((impl_OctaveFit.f k bt1221.1 bt1221.2.1 bt1221.2.2).bind fun bt1226 => (if bt1226.2 = true then ((impl_MoveScore.f k bt1221.1 bt1226.1).bind fun bt1228 => ((impl_LowHigh.f k bt1228.1).bind fun bt1232 => (if bt1228.2 = true then (if (Int.tmod bt1226.1 12) = 0 then ((impl_FitsRange.f k bt1228.1 bt1221.2.1 bt1221.2.2).bind fun t1234 => (if t1234 = true then (if (bt1228.1.length : Int) > 0 then (if bt1232.1 < bt1221.2.1 then (some false) else (if bt1232.2 > bt1221.2.2 then (some false) else (laws_FnMoves.j1 k x0))) else (laws_FnMoves.j1 k x0)) else (some false))) else (some false)) else (some false)))) else (laws_FnMoves.j1 k x0)))
def laws_FnMoves.j1 : Nat → List Int → Option (Bool)
 | 0, _ => none
 | k + 1, x0 => (spec_DrawFitsRange.f k x0).bind fun bt1235 => ((impl_LowHigh.f k bt1235.1).bind fun bt1240 => ((impl_FitsRange.f k bt1235.1 bt1235.2.1 bt1235.2.2).bind fun t1242 => ((impl_IsScore.f k bt1235.1).bind fun t1243 => (if t1243 = true then (if (bt1235.1.length : Int) = 0 then (some (t1242 == true)) else (if bt1240.1 ≥ bt1235.2.1 then (some (t1242 == (decide (bt1240.2 ≤ bt1235.2.2)))) else (some (t1242 == false)))) else (some (t1242 == false))))))
end
def laws_FnMoves.f (k : Nat) (l0 : List Int) : Option (Bool) := (laws_big.f l0).bind fun t1203 => (if t1203 = true then (some true) else ((spec_DrawWrittenFor.f k l0).bind fun bt1204 => ((impl_WrittenFor.f k bt1204.1 bt1204.2).bind fun bt1208 => ((spec_WrittenFor.f k bt1204.1 bt1204.2).bind fun bt1212 => (if (bt1208.2 != bt1212.2) = true then (some false) else (if bt1208.2 = true then ((impl_SoundingOf.f k bt1208.1 bt1204.2).bind fun bt1216 => (if bt1216.2 = true then ((impl_EqualScores.f k bt1216.1 bt1204.1).bind fun t1220 => (if t1220 = true then (laws_FnMoves.j0 k l0) else (some false))) else (some false))) else (laws_FnMoves.j0 k l0)))))))
set_option maxHeartbeats 8000000 in
set_option maxRecDepth 100000 in
theorem laws_FnMoves.calls (k : Nat) (A0 : Option Addr) (c0 : Nat) (l0 : List Int) (r : Bool) (w : World) (hr0 : Kd.C (Kd.int .u8) w A0 l0.length l0) (hc0 : l0.length ≤ c0) (h : laws_FnMoves.f k l0 = some r) :
  Calls Try.prog 6 #[.slice A0 l0.length c0] w fun e w' => e = .returned (.bool r) ∧ Below w.heap.size w w' := by
 have HR0 := Aside0.mk hr0
 have HC0 := Aside0.mk hc0
 clear hr0 hc0
 have HB := Aside0.mk (Below.refl w.heap.size w)
 have H : ((laws_big.f l0).bind fun t1203 => (if t1203 = true then (some true) else ((spec_DrawWrittenFor.f k l0).bind fun bt1204 => ((impl_WrittenFor.f k bt1204.1 bt1204.2).bind fun bt1208 => ((spec_WrittenFor.f k bt1204.1 bt1204.2).bind fun bt1212 => (if (bt1208.2 != bt1212.2) = true then (some false) else (if bt1208.2 = true then ((impl_SoundingOf.f k bt1208.1 bt1204.2).bind fun bt1216 => (if bt1216.2 = true then ((impl_EqualScores.f k bt1216.1 bt1204.1).bind fun t1220 => (if t1220 = true then (laws_FnMoves.j0 k l0) else (some false))) else (some false))) else (laws_FnMoves.j0 k l0)))))))) = some r := h
 clear h
 replace H := Option.bind_eq_some_iff.mp H
 obtain ⟨t1203, A20, H⟩ := H
 try dsimp only at H
 have A2 := Aside0.mk A20
 clear A20
 by_cases c3 : t1203 = true
 ·
  subst c3
  rw [if_pos rfl] at H
  obtain rfl := Option.some.inj H
  go_enter Try.func6, Try.ntmps6
  go_wp2_with (first | ((with_reducible refine gate_callee (f := 10) rfl ?_); refine goesL_ (some 26) rfl rfl Try.func10 (by kernel_rfl) rfl #[.slice A0 l0.length c0] rfl (by (try simp only [List.map_toArray, List.map_cons, List.map_nil]); first | done | rfl | (simp only [List.length_drop, List.length_take]; rfl)) ?_; (with_reducible refine (laws_big.calls _ _ l0 true _ ?side1 ?side2 A2.out).mono ?_); (case side1 => repeat (first | exact HR0.out | (with_reducible refine Kd.C_alloc ?_ _) | (with_reducible refine Kd.C_drewN ?_ _) | (with_reducible refine Kd.C_drew ?_))); (case side2 => exact HC0.out); rintro e w' ⟨rfl, ⟨nd, rfl⟩⟩; refine ⟨_, rfl, ?_⟩))
  go_ret
  exact ⟨by first | rfl | (simp [errW_none, errW_some] <;> rfl) | (simp [*, errW_none, errW_some] <;> rfl), by repeat (first | (with_reducible first | exact HB.out | apply below_alloc | apply pw_below_drewN | apply below_drew1) | exact HB.out)⟩
 ·
  replace c3 := Bool.eq_false_iff.mpr c3
  subst c3
  rw [if_neg (show ¬ (false = true) by decide)] at H
  replace H := Option.bind_eq_some_iff.mp H
  obtain ⟨⟨t1204, t1205⟩, A40, H⟩ := H
  try dsimp only at H
  have A4 := Aside0.mk A40
  clear A40
  replace H := Option.bind_eq_some_iff.mp H
  obtain ⟨⟨t1208, t1209⟩, A50, H⟩ := H
  try dsimp only at H
  have A5 := Aside0.mk A50
  clear A50
  replace H := Option.bind_eq_some_iff.mp H
  obtain ⟨⟨t1212, t1213⟩, A60, H⟩ := H
  try dsimp only at H
  have A6 := Aside0.mk A60
  clear A60
  by_cases c7 : (t1209 != t1213) = true
  ·
   rw [if_pos c7] at H
   have c7b0 : (t1209 != t1213) = true := c7
   (try (have c7b1 : decide (t1209 = t1213) = false := by simpa using c7))
   (try (have c7b2 : (t1209 == t1213) = false := by simpa using c7))
   (try (have c7b3 : ¬ (t1209 = t1213) := by simpa using c7))
   clear c7
   obtain rfl := Option.some.inj H
   go_enter Try.func6, Try.ntmps6
   go_wp2_with (first | ((with_reducible refine gate_callee (f := 10) rfl ?_); refine goesL_ (some 26) rfl rfl Try.func10 (by kernel_rfl) rfl #[.slice A0 l0.length c0] rfl (by (try simp only [List.map_toArray, List.map_cons, List.map_nil]); first | done | rfl | (simp only [List.length_drop, List.length_take]; rfl)) ?_; (with_reducible refine (laws_big.calls _ _ l0 false _ ?side1 ?side2 A2.out).mono ?_); (case side1 => repeat (first | exact HR0.out | (with_reducible refine Kd.C_alloc ?_ _) | (with_reducible refine Kd.C_drewN ?_ _) | (with_reducible refine Kd.C_drew ?_))); (case side2 => exact HC0.out); rintro e w' ⟨rfl, ⟨nd, rfl⟩⟩; refine ⟨_, rfl, ?_⟩) | ((with_reducible refine gate_callee (f := 35) rfl ?_); refine goesL_ (some 29) rfl rfl Try.func35 (by kernel_rfl) rfl #[.slice A0 l0.length c0] rfl (by (try simp only [List.map_toArray, List.map_cons, List.map_nil]); first | done | rfl | (simp only [List.length_drop, List.length_take]; rfl)) ?_; (with_reducible refine (spec_DrawWrittenFor.calls k _ _ l0 t1204 t1205 _ ?side1 ?side2 A4.out).mono ?_); (case side1 => repeat (first | exact HR0.out | (with_reducible refine Kd.C_alloc ?_ _) | (with_reducible refine Kd.C_drewN ?_ _) | (with_reducible refine Kd.C_drew ?_))); (case side2 => exact HC0.out); rintro e w8 ⟨v1206, rfl, ho0, hb⟩; refine ⟨_, rfl, ?_⟩; have n0_ := Aside0.mk (Kd.R_lower ho0 (below_size (by repeat (first | (with_reducible first | exact HB.out | apply below_alloc | apply pw_below_drewN | apply below_drew1) | exact HB.out)))); have n1_ := Aside0.mk (below_step (by repeat (first | (with_reducible first | exact HB.out | apply below_alloc | apply pw_below_drewN | apply below_drew1) | exact HB.out)) hb); clear HB; have HO1207 := n0_; have HB := n1_; clear n0_ n1_; (try clear hb); (try clear hb2); (try clear hk); (try clear hi); (try clear ho0); obtain ⟨Ao9, co9, eo9⟩ := Kd.R_slice HO1207.out; subst eo9) | ((with_reducible refine gate_callee (f := 36) rfl ?_); refine goesL_ (some 35) rfl rfl Try.func36 (by kernel_rfl) rfl #[.slice Ao9 t1204.length co9, .int .i64 t1205] rfl (by (try simp only [List.map_toArray, List.map_cons, List.map_nil]); first | done | rfl | (simp only [List.length_drop, List.length_take]; rfl)) ?_; (with_reducible refine (impl_WrittenFor.calls k _ _ t1204 t1205 t1208 t1209 _ ?side1 ?side2 A5.out).mono ?_); (case side1 => repeat (first | exact (Kd.R_reads' HO1207.out).2.2 | (with_reducible refine Kd.C_alloc ?_ _) | (with_reducible refine Kd.C_drewN ?_ _) | (with_reducible refine Kd.C_drew ?_))); (case side2 => exact (Kd.R_reads' HO1207.out).2.1); rintro e w10 ⟨v1210, rfl, ho0, hb⟩; refine ⟨_, rfl, ?_⟩; have n0_ := Aside0.mk (Kd.R_elder' (by (with_reducible repeat (first | apply Kd.R_alloc | apply Kd.R_drewN | apply Kd.R_drew)); exact HO1207.out) (Kd.R_base ho0) hb); have n1_ := Aside0.mk (Kd.R_lower (Kd.R_new' ho0 (Kd.R_lt (by (with_reducible repeat (first | apply Kd.R_alloc | apply Kd.R_drewN | apply Kd.R_drew)); exact HO1207.out))) (below_size (by repeat (first | (with_reducible first | exact HB.out | apply below_alloc | apply pw_below_drewN | apply below_drew1) | exact HB.out)))); have n2_ := Aside0.mk (below_step (by repeat (first | (with_reducible first | exact HB.out | apply below_alloc | apply pw_below_drewN | apply below_drew1) | exact HB.out)) hb); clear HO1207; clear HB; have HO1207 := n0_; have HO1211 := n1_; have HB := n2_; clear n0_ n1_ n2_; (try clear hb); (try clear hb2); (try clear hk); (try clear hi); (try clear ho0)) | ((with_reducible refine gate_callee (f := 37) rfl ?_); refine goesL_ (some 41) rfl rfl Try.func37 (by kernel_rfl) rfl #[.slice Ao9 t1204.length co9, .int .i64 t1205] rfl (by (try simp only [List.map_toArray, List.map_cons, List.map_nil]); first | done | rfl | (simp only [List.length_drop, List.length_take]; rfl)) ?_; (with_reducible refine (spec_WrittenFor.calls k _ _ t1204 t1205 t1212 t1213 _ ?side1 ?side2 A6.out).mono ?_); (case side1 => repeat (first | exact (Kd.R_reads' HO1207.out).2.2 | (with_reducible refine Kd.C_alloc ?_ _) | (with_reducible refine Kd.C_drewN ?_ _) | (with_reducible refine Kd.C_drew ?_))); (case side2 => exact (Kd.R_reads' HO1207.out).2.1); rintro e w11 ⟨v1214, rfl, ho0, hb⟩; refine ⟨_, rfl, ?_⟩; have n0_ := Aside0.mk (Kd.R_elder' (by (with_reducible repeat (first | apply Kd.R_alloc | apply Kd.R_drewN | apply Kd.R_drew)); exact HO1207.out) (Kd.R_base ho0) hb); have n1_ := Aside0.mk (Kd.R_elder' (by (with_reducible repeat (first | apply Kd.R_alloc | apply Kd.R_drewN | apply Kd.R_drew)); exact HO1211.out) (Kd.R_base ho0) hb); have n2_ := Aside0.mk (Kd.R_lower (Kd.R_new' (Kd.R_new' ho0 (Kd.R_lt (by (with_reducible repeat (first | apply Kd.R_alloc | apply Kd.R_drewN | apply Kd.R_drew)); exact HO1207.out))) (Kd.R_lt (by (with_reducible repeat (first | apply Kd.R_alloc | apply Kd.R_drewN | apply Kd.R_drew)); exact HO1211.out))) (below_size (by repeat (first | (with_reducible first | exact HB.out | apply below_alloc | apply pw_below_drewN | apply below_drew1) | exact HB.out)))); have n3_ := Aside0.mk (below_step (by repeat (first | (with_reducible first | exact HB.out | apply below_alloc | apply pw_below_drewN | apply below_drew1) | exact HB.out)) hb); clear HO1207; clear HO1211; clear HB; have HO1207 := n0_; have HO1211 := n1_; have HO1215 := n2_; have HB := n3_; clear n0_ n1_ n2_ n3_; (try clear hb); (try clear hb2); (try clear hk); (try clear hi); (try clear ho0)))
   go_ret
   exact ⟨by first | rfl | (simp [errW_none, errW_some] <;> rfl) | (simp [*, errW_none, errW_some] <;> rfl), by repeat (first | (with_reducible first | exact HB.out | apply below_alloc | apply pw_below_drewN | apply below_drew1) | exact HB.out)⟩
  ·
   rw [if_neg c7] at H
   have c7b0 : (t1209 != t1213) = false := by simpa using c7
   (try (have c7b1 : decide (t1209 = t1213) = true := by simpa using c7))
   (try (have c7b2 : (t1209 == t1213) = true := by simpa using c7))
   clear c7
   have HC12 := Aside0.mk H
   clear H
   go_enter Try.func6, Try.ntmps6
   go_upto_if 47 with (first | ((with_reducible refine gate_callee (f := 10) rfl ?_); refine goesL_ (some 26) rfl rfl Try.func10 (by kernel_rfl) rfl #[.slice A0 l0.length c0] rfl (by (try simp only [List.map_toArray, List.map_cons, List.map_nil]); first | done | rfl | (simp only [List.length_drop, List.length_take]; rfl)) ?_; (with_reducible refine (laws_big.calls _ _ l0 false _ ?side1 ?side2 A2.out).mono ?_); (case side1 => repeat (first | exact HR0.out | (with_reducible refine Kd.C_alloc ?_ _) | (with_reducible refine Kd.C_drewN ?_ _) | (with_reducible refine Kd.C_drew ?_))); (case side2 => exact HC0.out); rintro e w' ⟨rfl, ⟨nd, rfl⟩⟩; refine ⟨_, rfl, ?_⟩) | ((with_reducible refine gate_callee (f := 35) rfl ?_); refine goesL_ (some 29) rfl rfl Try.func35 (by kernel_rfl) rfl #[.slice A0 l0.length c0] rfl (by (try simp only [List.map_toArray, List.map_cons, List.map_nil]); first | done | rfl | (simp only [List.length_drop, List.length_take]; rfl)) ?_; (with_reducible refine (spec_DrawWrittenFor.calls k _ _ l0 t1204 t1205 _ ?side1 ?side2 A4.out).mono ?_); (case side1 => repeat (first | exact HR0.out | (with_reducible refine Kd.C_alloc ?_ _) | (with_reducible refine Kd.C_drewN ?_ _) | (with_reducible refine Kd.C_drew ?_))); (case side2 => exact HC0.out); rintro e w13 ⟨v1206, rfl, ho0, hb⟩; refine ⟨_, rfl, ?_⟩; have n0_ := Aside0.mk (Kd.R_lower ho0 (below_size (by repeat (first | (with_reducible first | exact HB.out | apply below_alloc | apply pw_below_drewN | apply below_drew1) | exact HB.out)))); have n1_ := Aside0.mk (below_step (by repeat (first | (with_reducible first | exact HB.out | apply below_alloc | apply pw_below_drewN | apply below_drew1) | exact HB.out)) hb); clear HB; have HO1207 := n0_; have HB := n1_; clear n0_ n1_; (try clear hb); (try clear hb2); (try clear hk); (try clear hi); (try clear ho0); obtain ⟨Ao14, co14, eo14⟩ := Kd.R_slice HO1207.out; subst eo14) | ((with_reducible refine gate_callee (f := 36) rfl ?_); refine goesL_ (some 35) rfl rfl Try.func36 (by kernel_rfl) rfl #[.slice Ao14 t1204.length co14, .int .i64 t1205] rfl (by (try simp only [List.map_toArray, List.map_cons, List.map_nil]); first | done | rfl | (simp only [List.length_drop, List.length_take]; rfl)) ?_; (with_reducible refine (impl_WrittenFor.calls k _ _ t1204 t1205 t1208 t1209 _ ?side1 ?side2 A5.out).mono ?_); (case side1 => repeat (first | exact (Kd.R_reads' HO1207.out).2.2 | (with_reducible refine Kd.C_alloc ?_ _) | (with_reducible refine Kd.C_drewN ?_ _) | (with_reducible refine Kd.C_drew ?_))); (case side2 => exact (Kd.R_reads' HO1207.out).2.1); rintro e w15 ⟨v1210, rfl, ho0, hb⟩; refine ⟨_, rfl, ?_⟩; have n0_ := Aside0.mk (Kd.R_elder' (by (with_reducible repeat (first | apply Kd.R_alloc | apply Kd.R_drewN | apply Kd.R_drew)); exact HO1207.out) (Kd.R_base ho0) hb); have n1_ := Aside0.mk (Kd.R_lower (Kd.R_new' ho0 (Kd.R_lt (by (with_reducible repeat (first | apply Kd.R_alloc | apply Kd.R_drewN | apply Kd.R_drew)); exact HO1207.out))) (below_size (by repeat (first | (with_reducible first | exact HB.out | apply below_alloc | apply pw_below_drewN | apply below_drew1) | exact HB.out)))); have n2_ := Aside0.mk (below_step (by repeat (first | (with_reducible first | exact HB.out | apply below_alloc | apply pw_below_drewN | apply below_drew1) | exact HB.out)) hb); clear HO1207; clear HB; have HO1207 := n0_; have HO1211 := n1_; have HB := n2_; clear n0_ n1_ n2_; (try clear hb); (try clear hb2); (try clear hk); (try clear hi); (try clear ho0)) | ((with_reducible refine gate_callee (f := 37) rfl ?_); refine goesL_ (some 41) rfl rfl Try.func37 (by kernel_rfl) rfl #[.slice Ao14 t1204.length co14, .int .i64 t1205] rfl (by (try simp only [List.map_toArray, List.map_cons, List.map_nil]); first | done | rfl | (simp only [List.length_drop, List.length_take]; rfl)) ?_; (with_reducible refine (spec_WrittenFor.calls k _ _ t1204 t1205 t1212 t1213 _ ?side1 ?side2 A6.out).mono ?_); (case side1 => repeat (first | exact (Kd.R_reads' HO1207.out).2.2 | (with_reducible refine Kd.C_alloc ?_ _) | (with_reducible refine Kd.C_drewN ?_ _) | (with_reducible refine Kd.C_drew ?_))); (case side2 => exact (Kd.R_reads' HO1207.out).2.1); rintro e w16 ⟨v1214, rfl, ho0, hb⟩; refine ⟨_, rfl, ?_⟩; have n0_ := Aside0.mk (Kd.R_elder' (by (with_reducible repeat (first | apply Kd.R_alloc | apply Kd.R_drewN | apply Kd.R_drew)); exact HO1207.out) (Kd.R_base ho0) hb); have n1_ := Aside0.mk (Kd.R_elder' (by (with_reducible repeat (first | apply Kd.R_alloc | apply Kd.R_drewN | apply Kd.R_drew)); exact HO1211.out) (Kd.R_base ho0) hb); have n2_ := Aside0.mk (Kd.R_lower (Kd.R_new' (Kd.R_new' ho0 (Kd.R_lt (by (with_reducible repeat (first | apply Kd.R_alloc | apply Kd.R_drewN | apply Kd.R_drew)); exact HO1207.out))) (Kd.R_lt (by (with_reducible repeat (first | apply Kd.R_alloc | apply Kd.R_drewN | apply Kd.R_drew)); exact HO1211.out))) (below_size (by repeat (first | (with_reducible first | exact HB.out | apply below_alloc | apply pw_below_drewN | apply below_drew1) | exact HB.out)))); have n3_ := Aside0.mk (below_step (by repeat (first | (with_reducible first | exact HB.out | apply below_alloc | apply pw_below_drewN | apply below_drew1) | exact HB.out)) hb); clear HO1207; clear HO1211; clear HB; have HO1207 := n0_; have HO1211 := n1_; have HO1215 := n2_; have HB := n3_; clear n0_ n1_ n2_ n3_; (try clear hb); (try clear hb2); (try clear hk); (try clear hi); (try clear ho0)))
   (try simp only [Act.put, List.setIfInBounds_toArray, List.set_cons_zero, List.set_cons_succ])
   go_cut [] (fun wc => ∃ (kq : Nat), Aside0 (laws_FnMoves.j0 kq l0 = some r) ∧ Aside0 (kq ≤ k) ∧ Aside0 (Below w.heap.size w wc))
   case first =>
    have H := HC12.out
    clear HC12
    by_cases c17 : t1209 = true
    ·
     subst c17
     rw [if_pos rfl] at H
     replace H := Option.bind_eq_some_iff.mp H
     obtain ⟨⟨t1216, t1217⟩, A180, H⟩ := H
     try dsimp only at H
     have A18 := Aside0.mk A180
     clear A180
     by_cases c19 : t1217 = true
     ·
      subst c19
      rw [if_pos rfl] at H
      replace H := Option.bind_eq_some_iff.mp H
      obtain ⟨t1220, A200, H⟩ := H
      try dsimp only at H
      have A20 := Aside0.mk A200
      clear A200
      by_cases c21 : t1220 = true
      ·
       subst c21
       rw [if_pos rfl] at H
       have H' := Aside0.mk H
       clear H
       obtain ⟨Ao22, co22, eo22⟩ := Kd.R_slice HO1211.out
       subst eo22
       go_wp2_with (first | ((with_reducible refine gate_callee (f := 38) rfl ?_); refine goesL_ (some 51) rfl rfl Try.func38 (by kernel_rfl) rfl #[.slice Ao22 t1208.length co22, .int .i64 t1205] rfl (by (try simp only [List.map_toArray, List.map_cons, List.map_nil]); first | done | rfl | (simp only [List.length_drop, List.length_take]; rfl)) ?_; (with_reducible refine (impl_SoundingOf.calls k _ _ t1208 t1205 t1216 true _ ?side1 ?side2 A18.out).mono ?_); (case side1 => repeat (first | exact (Kd.R_reads' HO1211.out).2.2 | (with_reducible refine Kd.C_alloc ?_ _) | (with_reducible refine Kd.C_drewN ?_ _) | (with_reducible refine Kd.C_drew ?_))); (case side2 => exact (Kd.R_reads' HO1211.out).2.1); rintro e w23 ⟨v1218, rfl, ho0, hb⟩; refine ⟨_, rfl, ?_⟩; have n0_ := Aside0.mk (Kd.R_elder' (by (with_reducible repeat (first | apply Kd.R_alloc | apply Kd.R_drewN | apply Kd.R_drew)); exact HO1207.out) (Kd.R_base ho0) hb); have n1_ := Aside0.mk (Kd.R_elder' (by (with_reducible repeat (first | apply Kd.R_alloc | apply Kd.R_drewN | apply Kd.R_drew)); exact HO1211.out) (Kd.R_base ho0) hb); have n2_ := Aside0.mk (Kd.R_elder' (by (with_reducible repeat (first | apply Kd.R_alloc | apply Kd.R_drewN | apply Kd.R_drew)); exact HO1215.out) (Kd.R_base ho0) hb); have n3_ := Aside0.mk (Kd.R_lower (Kd.R_new' (Kd.R_new' (Kd.R_new' ho0 (Kd.R_lt (by (with_reducible repeat (first | apply Kd.R_alloc | apply Kd.R_drewN | apply Kd.R_drew)); exact HO1207.out))) (Kd.R_lt (by (with_reducible repeat (first | apply Kd.R_alloc | apply Kd.R_drewN | apply Kd.R_drew)); exact HO1211.out))) (Kd.R_lt (by (with_reducible repeat (first | apply Kd.R_alloc | apply Kd.R_drewN | apply Kd.R_drew)); exact HO1215.out))) (below_size (by repeat (first | (with_reducible first | exact HB.out | apply below_alloc | apply pw_below_drewN | apply below_drew1) | exact HB.out)))); have n4_ := Aside0.mk (below_step (by repeat (first | (with_reducible first | exact HB.out | apply below_alloc | apply pw_below_drewN | apply below_drew1) | exact HB.out)) hb); clear HO1207; clear HO1211; clear HO1215; clear HB; have HO1207 := n0_; have HO1211 := n1_; have HO1215 := n2_; have HO1219 := n3_; have HB := n4_; clear n0_ n1_ n2_ n3_ n4_; (try clear hb); (try clear hb2); (try clear hk); (try clear hi); (try clear ho0); obtain ⟨Ao24, co24, eo24⟩ := Kd.R_slice HO1219.out; subst eo24) | (go_at_call 15; (with_reducible refine (impl_EqualScores.calls k _ _ t1216 _ _ t1204 true _ ?side1 ?side2 ?side3 ?side4 A20.out).mono ?_); (case side1 => repeat (first | exact (Kd.R_reads' HO1219.out).2.2 | (with_reducible refine Kd.C_alloc ?_ _) | (with_reducible refine Kd.C_drewN ?_ _) | (with_reducible refine Kd.C_drew ?_))); (case side2 => exact (Kd.R_reads' HO1219.out).2.1); (case side3 => repeat (first | exact (Kd.R_reads' HO1207.out).2.2 | (with_reducible refine Kd.C_alloc ?_ _) | (with_reducible refine Kd.C_drewN ?_ _) | (with_reducible refine Kd.C_drew ?_))); (case side4 => exact (Kd.R_reads' HO1207.out).2.1); rintro e w' ⟨rfl, ⟨nd, rfl⟩⟩))
       go_meet
       case rel => exact ⟨_, H', ⟨by first | omega | exact Nat.le_refl _⟩, ⟨by repeat (first | (with_reducible first | exact HB.out | apply below_alloc | apply pw_below_drewN | apply below_drew1) | exact HB.out)⟩⟩
      ·
       replace c21 := Bool.eq_false_iff.mpr c21
       subst c21
       rw [if_neg (show ¬ (false = true) by decide)] at H
       obtain rfl := Option.some.inj H
       obtain ⟨Ao25, co25, eo25⟩ := Kd.R_slice HO1211.out
       subst eo25
       go_wp2_with (first | ((with_reducible refine gate_callee (f := 38) rfl ?_); refine goesL_ (some 51) rfl rfl Try.func38 (by kernel_rfl) rfl #[.slice Ao25 t1208.length co25, .int .i64 t1205] rfl (by (try simp only [List.map_toArray, List.map_cons, List.map_nil]); first | done | rfl | (simp only [List.length_drop, List.length_take]; rfl)) ?_; (with_reducible refine (impl_SoundingOf.calls k _ _ t1208 t1205 t1216 true _ ?side1 ?side2 A18.out).mono ?_); (case side1 => repeat (first | exact (Kd.R_reads' HO1211.out).2.2 | (with_reducible refine Kd.C_alloc ?_ _) | (with_reducible refine Kd.C_drewN ?_ _) | (with_reducible refine Kd.C_drew ?_))); (case side2 => exact (Kd.R_reads' HO1211.out).2.1); rintro e w26 ⟨v1218, rfl, ho0, hb⟩; refine ⟨_, rfl, ?_⟩; have n0_ := Aside0.mk (Kd.R_elder' (by (with_reducible repeat (first | apply Kd.R_alloc | apply Kd.R_drewN | apply Kd.R_drew)); exact HO1207.out) (Kd.R_base ho0) hb); have n1_ := Aside0.mk (Kd.R_elder' (by (with_reducible repeat (first | apply Kd.R_alloc | apply Kd.R_drewN | apply Kd.R_drew)); exact HO1211.out) (Kd.R_base ho0) hb); have n2_ := Aside0.mk (Kd.R_elder' (by (with_reducible repeat (first | apply Kd.R_alloc | apply Kd.R_drewN | apply Kd.R_drew)); exact HO1215.out) (Kd.R_base ho0) hb); have n3_ := Aside0.mk (Kd.R_lower (Kd.R_new' (Kd.R_new' (Kd.R_new' ho0 (Kd.R_lt (by (with_reducible repeat (first | apply Kd.R_alloc | apply Kd.R_drewN | apply Kd.R_drew)); exact HO1207.out))) (Kd.R_lt (by (with_reducible repeat (first | apply Kd.R_alloc | apply Kd.R_drewN | apply Kd.R_drew)); exact HO1211.out))) (Kd.R_lt (by (with_reducible repeat (first | apply Kd.R_alloc | apply Kd.R_drewN | apply Kd.R_drew)); exact HO1215.out))) (below_size (by repeat (first | (with_reducible first | exact HB.out | apply below_alloc | apply pw_below_drewN | apply below_drew1) | exact HB.out)))); have n4_ := Aside0.mk (below_step (by repeat (first | (with_reducible first | exact HB.out | apply below_alloc | apply pw_below_drewN | apply below_drew1) | exact HB.out)) hb); clear HO1207; clear HO1211; clear HO1215; clear HB; have HO1207 := n0_; have HO1211 := n1_; have HO1215 := n2_; have HO1219 := n3_; have HB := n4_; clear n0_ n1_ n2_ n3_ n4_; (try clear hb); (try clear hb2); (try clear hk); (try clear hi); (try clear ho0); obtain ⟨Ao27, co27, eo27⟩ := Kd.R_slice HO1219.out; subst eo27) | (go_at_call 15; (with_reducible refine (impl_EqualScores.calls k _ _ t1216 _ _ t1204 false _ ?side1 ?side2 ?side3 ?side4 A20.out).mono ?_); (case side1 => repeat (first | exact (Kd.R_reads' HO1219.out).2.2 | (with_reducible refine Kd.C_alloc ?_ _) | (with_reducible refine Kd.C_drewN ?_ _) | (with_reducible refine Kd.C_drew ?_))); (case side2 => exact (Kd.R_reads' HO1219.out).2.1); (case side3 => repeat (first | exact (Kd.R_reads' HO1207.out).2.2 | (with_reducible refine Kd.C_alloc ?_ _) | (with_reducible refine Kd.C_drewN ?_ _) | (with_reducible refine Kd.C_drew ?_))); (case side4 => exact (Kd.R_reads' HO1207.out).2.1); rintro e w' ⟨rfl, ⟨nd, rfl⟩⟩))
       go_ret
       exact ⟨by first | rfl | (simp [errW_none, errW_some] <;> rfl) | (simp [*, errW_none, errW_some] <;> rfl), by repeat (first | (with_reducible first | exact HB.out | apply below_alloc | apply pw_below_drewN | apply below_drew1) | exact HB.out)⟩
     ·
      replace c19 := Bool.eq_false_iff.mpr c19
      subst c19
      rw [if_neg (show ¬ (false = true) by decide)] at H
      obtain rfl := Option.some.inj H
      obtain ⟨Ao28, co28, eo28⟩ := Kd.R_slice HO1211.out
      subst eo28
      go_wp2_with (first | ((with_reducible refine gate_callee (f := 38) rfl ?_); refine goesL_ (some 51) rfl rfl Try.func38 (by kernel_rfl) rfl #[.slice Ao28 t1208.length co28, .int .i64 t1205] rfl (by (try simp only [List.map_toArray, List.map_cons, List.map_nil]); first | done | rfl | (simp only [List.length_drop, List.length_take]; rfl)) ?_; (with_reducible refine (impl_SoundingOf.calls k _ _ t1208 t1205 t1216 false _ ?side1 ?side2 A18.out).mono ?_); (case side1 => repeat (first | exact (Kd.R_reads' HO1211.out).2.2 | (with_reducible refine Kd.C_alloc ?_ _) | (with_reducible refine Kd.C_drewN ?_ _) | (with_reducible refine Kd.C_drew ?_))); (case side2 => exact (Kd.R_reads' HO1211.out).2.1); rintro e w29 ⟨v1218, rfl, ho0, hb⟩; refine ⟨_, rfl, ?_⟩; have n0_ := Aside0.mk (Kd.R_elder' (by (with_reducible repeat (first | apply Kd.R_alloc | apply Kd.R_drewN | apply Kd.R_drew)); exact HO1207.out) (Kd.R_base ho0) hb); have n1_ := Aside0.mk (Kd.R_elder' (by (with_reducible repeat (first | apply Kd.R_alloc | apply Kd.R_drewN | apply Kd.R_drew)); exact HO1211.out) (Kd.R_base ho0) hb); have n2_ := Aside0.mk (Kd.R_elder' (by (with_reducible repeat (first | apply Kd.R_alloc | apply Kd.R_drewN | apply Kd.R_drew)); exact HO1215.out) (Kd.R_base ho0) hb); have n3_ := Aside0.mk (Kd.R_lower (Kd.R_new' (Kd.R_new' (Kd.R_new' ho0 (Kd.R_lt (by (with_reducible repeat (first | apply Kd.R_alloc | apply Kd.R_drewN | apply Kd.R_drew)); exact HO1207.out))) (Kd.R_lt (by (with_reducible repeat (first | apply Kd.R_alloc | apply Kd.R_drewN | apply Kd.R_drew)); exact HO1211.out))) (Kd.R_lt (by (with_reducible repeat (first | apply Kd.R_alloc | apply Kd.R_drewN | apply Kd.R_drew)); exact HO1215.out))) (below_size (by repeat (first | (with_reducible first | exact HB.out | apply below_alloc | apply pw_below_drewN | apply below_drew1) | exact HB.out)))); have n4_ := Aside0.mk (below_step (by repeat (first | (with_reducible first | exact HB.out | apply below_alloc | apply pw_below_drewN | apply below_drew1) | exact HB.out)) hb); clear HO1207; clear HO1211; clear HO1215; clear HB; have HO1207 := n0_; have HO1211 := n1_; have HO1215 := n2_; have HO1219 := n3_; have HB := n4_; clear n0_ n1_ n2_ n3_ n4_; (try clear hb); (try clear hb2); (try clear hk); (try clear hi); (try clear ho0)))
      go_ret
      exact ⟨by first | rfl | (simp [errW_none, errW_some] <;> rfl) | (simp [*, errW_none, errW_some] <;> rfl), by repeat (first | (with_reducible first | exact HB.out | apply below_alloc | apply pw_below_drewN | apply below_drew1) | exact HB.out)⟩
    ·
     replace c17 := Bool.eq_false_iff.mpr c17
     subst c17
     rw [if_neg (show ¬ (false = true) by decide)] at H
     have H' := Aside0.mk H
     clear H
     go_wp2
     go_meet
     case rel => exact ⟨_, H', ⟨by first | omega | exact Nat.le_refl _⟩, ⟨by repeat (first | (with_reducible first | exact HB.out | apply below_alloc | apply pw_below_drewN | apply below_drew1) | exact HB.out)⟩⟩
   case rest =>
    clear HC12
    try clear c1
    try clear c2
    try clear p2
    try clear c3
    try clear c6
    try clear c7
    try clear c7b0
    try clear c7b1
    try clear c7b2
    try clear c10
    try clear c17
    try clear c19
    try clear c21
    obtain ⟨kq, HA, HJ11, HB⟩ := hcut
    cases kq with
    | zero => exact absurd HA.out (by simp [laws_FnMoves.j0])
    | succ kj11 =>
     have H := HA.out
     clear HA
     simp only [laws_FnMoves.j0] at H
     replace H := Option.bind_eq_some_iff.mp H
     obtain ⟨⟨t1221, t1222, t1223⟩, A300, H⟩ := H
     try dsimp only at H
     have A30 := Aside0.mk A300
     clear A300
     replace H := Option.bind_eq_some_iff.mp H
     obtain ⟨⟨t1226, t1227⟩, A310, H⟩ := H
     try dsimp only at H
     have A31 := Aside0.mk A310
     clear A310
     have HC32 := Aside0.mk H
     clear H
     go_upto_if 75 with (first | ((with_reducible refine gate_callee (f := 39) rfl ?_); refine goesL_ (some 64) rfl rfl Try.func39 (by kernel_rfl) rfl #[.slice A0 l0.length c0] rfl (by (try simp only [List.map_toArray, List.map_cons, List.map_nil]); first | done | rfl | (simp only [List.length_drop, List.length_take]; rfl)) ?_; (with_reducible refine (spec_DrawOctaveFit.calls kj11 _ _ l0 t1221 t1222 t1223 _ ?side1 ?side2 A30.out).mono ?_); (case side1 => repeat (first | exact (Kd.C_below HR0.out HB.out) | (with_reducible refine Kd.C_alloc ?_ _) | (with_reducible refine Kd.C_drewN ?_ _) | (with_reducible refine Kd.C_drew ?_))); (case side2 => exact HC0.out); rintro e w33 ⟨v1224, rfl, ho0, hb⟩; refine ⟨_, rfl, ?_⟩; have n0_ := Aside0.mk (Kd.R_lower ho0 (below_size (by repeat (first | (with_reducible first | exact HB.out | apply below_alloc | apply pw_below_drewN | apply below_drew1) | exact HB.out)))); have n1_ := Aside0.mk (below_step (by repeat (first | (with_reducible first | exact HB.out | apply below_alloc | apply pw_below_drewN | apply below_drew1) | exact HB.out)) hb); clear HB; have HO1225 := n0_; have HB := n1_; clear n0_ n1_; (try clear hb); (try clear hb2); (try clear hk); (try clear hi); (try clear ho0); obtain ⟨Ao34, co34, eo34⟩ := Kd.R_slice HO1225.out; subst eo34) | ((with_reducible refine gate_callee (f := 40) rfl ?_); refine goesL_ (some 72) rfl rfl Try.func40 (by kernel_rfl) rfl #[.slice Ao34 t1221.length co34, .int .i64 t1222, .int .i64 t1223] rfl (by (try simp only [List.map_toArray, List.map_cons, List.map_nil]); first | done | rfl | (simp only [List.length_drop, List.length_take]; rfl)) ?_; (with_reducible refine (impl_OctaveFit.calls kj11 _ _ t1221 t1222 t1223 t1226 t1227 _ ?side1 ?side2 A31.out).mono ?_); (case side1 => repeat (first | exact (Kd.R_reads' HO1225.out).2.2 | (with_reducible refine Kd.C_alloc ?_ _) | (with_reducible refine Kd.C_drewN ?_ _) | (with_reducible refine Kd.C_drew ?_))); (case side2 => exact (Kd.R_reads' HO1225.out).2.1); rintro e w35 ⟨rfl, hb⟩; refine ⟨_, rfl, ?_⟩; have n0_ := Aside0.mk (Kd.R_below (by (with_reducible repeat (first | apply Kd.R_alloc | apply Kd.R_drewN | apply Kd.R_drew)); exact HO1225.out) hb); have n1_ := Aside0.mk (below_step (by repeat (first | (with_reducible first | exact HB.out | apply below_alloc | apply pw_below_drewN | apply below_drew1) | exact HB.out)) hb); clear HO1225; clear HB; have HO1225 := n0_; have HB := n1_; clear n0_ n1_; (try clear hb); (try clear hb2); (try clear hk); (try clear hi)))
     (try simp only [Act.put, List.setIfInBounds_toArray, List.set_cons_zero, List.set_cons_succ])
     go_cut [] (fun wc => ∃ (kq : Nat), Aside0 (laws_FnMoves.j1 kq l0 = some r) ∧ Aside0 (kq ≤ kj11) ∧ Aside0 (Below w.heap.size w wc))
     case first =>
      have H := HC32.out
      clear HC32
      by_cases c36 : t1227 = true
      ·
       subst c36
       rw [if_pos rfl] at H
       replace H := Option.bind_eq_some_iff.mp H
       obtain ⟨⟨t1228, t1229⟩, A370, H⟩ := H
       try dsimp only at H
       have A37 := Aside0.mk A370
       clear A370
       replace H := Option.bind_eq_some_iff.mp H
       obtain ⟨⟨t1232, t1233⟩, A380, H⟩ := H
       try dsimp only at H
       have A38 := Aside0.mk A380
       clear A380
       by_cases c39 : t1229 = true
       ·
        subst c39
        rw [if_pos rfl] at H
        by_cases c40 : (Int.tmod t1226 12) = 0
        ·
         rw [if_pos c40] at H
         have c40b0 : ((Int.tmod t1226 12) == 0) = true := beq_iff_eq.mpr c40
         have c40b1 : ((Int.tmod t1226 12) != 0) = false := bne_eq_false_iff_eq.mpr c40
         clear c40
         (first | rw [c40b0] | (simp only [i64_w, i32_w]; rw [c40b0]) | skip)
         replace H := Option.bind_eq_some_iff.mp H
         obtain ⟨t1234, A410, H⟩ := H
         try dsimp only at H
         have A41 := Aside0.mk A410
         clear A410
         by_cases c42 : t1234 = true
         ·
          subst c42
          rw [if_pos rfl] at H
          by_cases c43 : (t1228.length : Int) > 0
          ·
           rw [if_pos c43] at H
           have c43b0 : decide (0 < (t1228.length : Int)) = true := decide_eq_true c43
           have c43b1 : decide (0 < t1228.length) = true := decide_eq_true (by omega)
           clear c43
           by_cases c44 : t1232 < t1222
           ·
            rw [if_pos c44] at H
            have c44b0 : decide (t1232 < t1222) = true := decide_eq_true c44
            clear c44
            obtain rfl := Option.some.inj H
            go_wp2_with (first | ((with_reducible refine gate_callee (f := 41) rfl ?_); refine goesL_ (some 79) rfl rfl Try.func41 (by kernel_rfl) rfl #[.slice Ao34 t1221.length co34, .int .i64 t1226] rfl (by (try simp only [List.map_toArray, List.map_cons, List.map_nil]); first | done | rfl | (simp only [List.length_drop, List.length_take]; rfl)) ?_; (with_reducible refine (impl_MoveScore.calls kj11 _ _ t1221 t1226 t1228 true _ ?side1 ?side2 A37.out).mono ?_); (case side1 => repeat (first | exact (Kd.R_reads' HO1225.out).2.2 | (with_reducible refine Kd.C_alloc ?_ _) | (with_reducible refine Kd.C_drewN ?_ _) | (with_reducible refine Kd.C_drew ?_))); (case side2 => exact (Kd.R_reads' HO1225.out).2.1); rintro e w45 ⟨v1230, rfl, ho0, hb⟩; refine ⟨_, rfl, ?_⟩; have n0_ := Aside0.mk (Kd.R_elder' (by (with_reducible repeat (first | apply Kd.R_alloc | apply Kd.R_drewN | apply Kd.R_drew)); exact HO1225.out) (Kd.R_base ho0) hb); have n1_ := Aside0.mk (Kd.R_lower (Kd.R_new' ho0 (Kd.R_lt (by (with_reducible repeat (first | apply Kd.R_alloc | apply Kd.R_drewN | apply Kd.R_drew)); exact HO1225.out))) (below_size (by repeat (first | (with_reducible first | exact HB.out | apply below_alloc | apply pw_below_drewN | apply below_drew1) | exact HB.out)))); have n2_ := Aside0.mk (below_step (by repeat (first | (with_reducible first | exact HB.out | apply below_alloc | apply pw_below_drewN | apply below_drew1) | exact HB.out)) hb); clear HO1225; clear HB; have HO1225 := n0_; have HO1231 := n1_; have HB := n2_; clear n0_ n1_ n2_; (try clear hb); (try clear hb2); (try clear hk); (try clear hi); (try clear ho0); obtain ⟨Ao46, co46, eo46⟩ := Kd.R_slice HO1231.out; subst eo46) | ((with_reducible refine gate_callee (f := 42) rfl ?_); refine goesL_ (some 84) rfl rfl Try.func42 (by kernel_rfl) rfl #[.slice Ao46 t1228.length co46] rfl (by (try simp only [List.map_toArray, List.map_cons, List.map_nil]); first | done | rfl | (simp only [List.length_drop, List.length_take]; rfl)) ?_; (with_reducible refine (impl_LowHigh.calls kj11 _ _ t1228 t1232 t1233 _ ?side1 ?side2 A38.out).mono ?_); (case side1 => repeat (first | exact (Kd.R_reads' HO1231.out).2.2 | (with_reducible refine Kd.C_alloc ?_ _) | (with_reducible refine Kd.C_drewN ?_ _) | (with_reducible refine Kd.C_drew ?_))); (case side2 => exact (Kd.R_reads' HO1231.out).2.1); rintro e w47 ⟨rfl, hb⟩; refine ⟨_, rfl, ?_⟩; have n0_ := Aside0.mk (Kd.R_below (by (with_reducible repeat (first | apply Kd.R_alloc | apply Kd.R_drewN | apply Kd.R_drew)); exact HO1225.out) hb); have n1_ := Aside0.mk (Kd.R_below (by (with_reducible repeat (first | apply Kd.R_alloc | apply Kd.R_drewN | apply Kd.R_drew)); exact HO1231.out) hb); have n2_ := Aside0.mk (below_step (by repeat (first | (with_reducible first | exact HB.out | apply below_alloc | apply pw_below_drewN | apply below_drew1) | exact HB.out)) hb); clear HO1225; clear HO1231; clear HB; have HO1225 := n0_; have HO1231 := n1_; have HB := n2_; clear n0_ n1_ n2_; (try clear hb); (try clear hb2); (try clear hk); (try clear hi)) | (go_at_call 43; (with_reducible refine (impl_FitsRange.calls kj11 _ _ t1228 t1222 t1223 true _ ?side1 ?side2 A41.out).mono ?_); (case side1 => repeat (first | exact (Kd.R_reads' HO1231.out).2.2 | (with_reducible refine Kd.C_alloc ?_ _) | (with_reducible refine Kd.C_drewN ?_ _) | (with_reducible refine Kd.C_drew ?_))); (case side2 => exact (Kd.R_reads' HO1231.out).2.1); rintro e w48 ⟨rfl, hb⟩; have n0_ := Aside0.mk (Kd.R_below (by (with_reducible repeat (first | apply Kd.R_alloc | apply Kd.R_drewN | apply Kd.R_drew)); exact HO1225.out) hb); have n1_ := Aside0.mk (Kd.R_below (by (with_reducible repeat (first | apply Kd.R_alloc | apply Kd.R_drewN | apply Kd.R_drew)); exact HO1231.out) hb); have n2_ := Aside0.mk (below_step (by repeat (first | (with_reducible first | exact HB.out | apply below_alloc | apply pw_below_drewN | apply below_drew1) | exact HB.out)) hb); clear HO1225; clear HO1231; clear HB; have HO1225 := n0_; have HO1231 := n1_; have HB := n2_; clear n0_ n1_ n2_; (try clear hb); (try clear hb2); (try clear hk); (try clear hi)))
            go_ret
            exact ⟨by first | rfl | (simp [errW_none, errW_some] <;> rfl) | (simp [*, errW_none, errW_some] <;> rfl), by repeat (first | (with_reducible first | exact HB.out | apply below_alloc | apply pw_below_drewN | apply below_drew1) | exact HB.out)⟩
           ·
            rw [if_neg c44] at H
            have c44b0 : decide (t1232 < t1222) = false := decide_eq_false c44
            clear c44
            by_cases c49 : t1233 > t1223
            ·
             rw [if_pos c49] at H
             have c49b0 : decide (t1223 < t1233) = true := decide_eq_true c49
             clear c49
             obtain rfl := Option.some.inj H
             go_wp2_with (first | ((with_reducible refine gate_callee (f := 41) rfl ?_); refine goesL_ (some 79) rfl rfl Try.func41 (by kernel_rfl) rfl #[.slice Ao34 t1221.length co34, .int .i64 t1226] rfl (by (try simp only [List.map_toArray, List.map_cons, List.map_nil]); first | done | rfl | (simp only [List.length_drop, List.length_take]; rfl)) ?_; (with_reducible refine (impl_MoveScore.calls kj11 _ _ t1221 t1226 t1228 true _ ?side1 ?side2 A37.out).mono ?_); (case side1 => repeat (first | exact (Kd.R_reads' HO1225.out).2.2 | (with_reducible refine Kd.C_alloc ?_ _) | (with_reducible refine Kd.C_drewN ?_ _) | (with_reducible refine Kd.C_drew ?_))); (case side2 => exact (Kd.R_reads' HO1225.out).2.1); rintro e w50 ⟨v1230, rfl, ho0, hb⟩; refine ⟨_, rfl, ?_⟩; have n0_ := Aside0.mk (Kd.R_elder' (by (with_reducible repeat (first | apply Kd.R_alloc | apply Kd.R_drewN | apply Kd.R_drew)); exact HO1225.out) (Kd.R_base ho0) hb); have n1_ := Aside0.mk (Kd.R_lower (Kd.R_new' ho0 (Kd.R_lt (by (with_reducible repeat (first | apply Kd.R_alloc | apply Kd.R_drewN | apply Kd.R_drew)); exact HO1225.out))) (below_size (by repeat (first | (with_reducible first | exact HB.out | apply below_alloc | apply pw_below_drewN | apply below_drew1) | exact HB.out)))); have n2_ := Aside0.mk (below_step (by repeat (first | (with_reducible first | exact HB.out | apply below_alloc | apply pw_below_drewN | apply below_drew1) | exact HB.out)) hb); clear HO1225; clear HB; have HO1225 := n0_; have HO1231 := n1_; have HB := n2_; clear n0_ n1_ n2_; (try clear hb); (try clear hb2); (try clear hk); (try clear hi); (try clear ho0); obtain ⟨Ao51, co51, eo51⟩ := Kd.R_slice HO1231.out; subst eo51) | ((with_reducible refine gate_callee (f := 42) rfl ?_); refine goesL_ (some 84) rfl rfl Try.func42 (by kernel_rfl) rfl #[.slice Ao51 t1228.length co51] rfl (by (try simp only [List.map_toArray, List.map_cons, List.map_nil]); first | done | rfl | (simp only [List.length_drop, List.length_take]; rfl)) ?_; (with_reducible refine (impl_LowHigh.calls kj11 _ _ t1228 t1232 t1233 _ ?side1 ?side2 A38.out).mono ?_); (case side1 => repeat (first | exact (Kd.R_reads' HO1231.out).2.2 | (with_reducible refine Kd.C_alloc ?_ _) | (with_reducible refine Kd.C_drewN ?_ _) | (with_reducible refine Kd.C_drew ?_))); (case side2 => exact (Kd.R_reads' HO1231.out).2.1); rintro e w52 ⟨rfl, hb⟩; refine ⟨_, rfl, ?_⟩; have n0_ := Aside0.mk (Kd.R_below (by (with_reducible repeat (first | apply Kd.R_alloc | apply Kd.R_drewN | apply Kd.R_drew)); exact HO1225.out) hb); have n1_ := Aside0.mk (Kd.R_below (by (with_reducible repeat (first | apply Kd.R_alloc | apply Kd.R_drewN | apply Kd.R_drew)); exact HO1231.out) hb); have n2_ := Aside0.mk (below_step (by repeat (first | (with_reducible first | exact HB.out | apply below_alloc | apply pw_below_drewN | apply below_drew1) | exact HB.out)) hb); clear HO1225; clear HO1231; clear HB; have HO1225 := n0_; have HO1231 := n1_; have HB := n2_; clear n0_ n1_ n2_; (try clear hb); (try clear hb2); (try clear hk); (try clear hi)) | (go_at_call 43; (with_reducible refine (impl_FitsRange.calls kj11 _ _ t1228 t1222 t1223 true _ ?side1 ?side2 A41.out).mono ?_); (case side1 => repeat (first | exact (Kd.R_reads' HO1231.out).2.2 | (with_reducible refine Kd.C_alloc ?_ _) | (with_reducible refine Kd.C_drewN ?_ _) | (with_reducible refine Kd.C_drew ?_))); (case side2 => exact (Kd.R_reads' HO1231.out).2.1); rintro e w53 ⟨rfl, hb⟩; have n0_ := Aside0.mk (Kd.R_below (by (with_reducible repeat (first | apply Kd.R_alloc | apply Kd.R_drewN | apply Kd.R_drew)); exact HO1225.out) hb); have n1_ := Aside0.mk (Kd.R_below (by (with_reducible repeat (first | apply Kd.R_alloc | apply Kd.R_drewN | apply Kd.R_drew)); exact HO1231.out) hb); have n2_ := Aside0.mk (below_step (by repeat (first | (with_reducible first | exact HB.out | apply below_alloc | apply pw_below_drewN | apply below_drew1) | exact HB.out)) hb); clear HO1225; clear HO1231; clear HB; have HO1225 := n0_; have HO1231 := n1_; have HB := n2_; clear n0_ n1_ n2_; (try clear hb); (try clear hb2); (try clear hk); (try clear hi)))
             go_ret
             exact ⟨by first | rfl | (simp [errW_none, errW_some] <;> rfl) | (simp [*, errW_none, errW_some] <;> rfl), by repeat (first | (with_reducible first | exact HB.out | apply below_alloc | apply pw_below_drewN | apply below_drew1) | exact HB.out)⟩
            ·
             rw [if_neg c49] at H
             have c49b0 : decide (t1223 < t1233) = false := decide_eq_false c49
             clear c49
             have H' := Aside0.mk H
             clear H
             go_wp2_with (first | ((with_reducible refine gate_callee (f := 41) rfl ?_); refine goesL_ (some 79) rfl rfl Try.func41 (by kernel_rfl) rfl #[.slice Ao34 t1221.length co34, .int .i64 t1226] rfl (by (try simp only [List.map_toArray, List.map_cons, List.map_nil]); first | done | rfl | (simp only [List.length_drop, List.length_take]; rfl)) ?_; (with_reducible refine (impl_MoveScore.calls kj11 _ _ t1221 t1226 t1228 true _ ?side1 ?side2 A37.out).mono ?_); (case side1 => repeat (first | exact (Kd.R_reads' HO1225.out).2.2 | (with_reducible refine Kd.C_alloc ?_ _) | (with_reducible refine Kd.C_drewN ?_ _) | (with_reducible refine Kd.C_drew ?_))); (case side2 => exact (Kd.R_reads' HO1225.out).2.1); rintro e w54 ⟨v1230, rfl, ho0, hb⟩; refine ⟨_, rfl, ?_⟩; have n0_ := Aside0.mk (Kd.R_elder' (by (with_reducible repeat (first | apply Kd.R_alloc | apply Kd.R_drewN | apply Kd.R_drew)); exact HO1225.out) (Kd.R_base ho0) hb); have n1_ := Aside0.mk (Kd.R_lower (Kd.R_new' ho0 (Kd.R_lt (by (with_reducible repeat (first | apply Kd.R_alloc | apply Kd.R_drewN | apply Kd.R_drew)); exact HO1225.out))) (below_size (by repeat (first | (with_reducible first | exact HB.out | apply below_alloc | apply pw_below_drewN | apply below_drew1) | exact HB.out)))); have n2_ := Aside0.mk (below_step (by repeat (first | (with_reducible first | exact HB.out | apply below_alloc | apply pw_below_drewN | apply below_drew1) | exact HB.out)) hb); clear HO1225; clear HB; have HO1225 := n0_; have HO1231 := n1_; have HB := n2_; clear n0_ n1_ n2_; (try clear hb); (try clear hb2); (try clear hk); (try clear hi); (try clear ho0); obtain ⟨Ao55, co55, eo55⟩ := Kd.R_slice HO1231.out; subst eo55) | ((with_reducible refine gate_callee (f := 42) rfl ?_); refine goesL_ (some 84) rfl rfl Try.func42 (by kernel_rfl) rfl #[.slice Ao55 t1228.length co55] rfl (by (try simp only [List.map_toArray, List.map_cons, List.map_nil]); first | done | rfl | (simp only [List.length_drop, List.length_take]; rfl)) ?_; (with_reducible refine (impl_LowHigh.calls kj11 _ _ t1228 t1232 t1233 _ ?side1 ?side2 A38.out).mono ?_); (case side1 => repeat (first | exact (Kd.R_reads' HO1231.out).2.2 | (with_reducible refine Kd.C_alloc ?_ _) | (with_reducible refine Kd.C_drewN ?_ _) | (with_reducible refine Kd.C_drew ?_))); (case side2 => exact (Kd.R_reads' HO1231.out).2.1); rintro e w56 ⟨rfl, hb⟩; refine ⟨_, rfl, ?_⟩; have n0_ := Aside0.mk (Kd.R_below (by (with_reducible repeat (first | apply Kd.R_alloc | apply Kd.R_drewN | apply Kd.R_drew)); exact HO1225.out) hb); have n1_ := Aside0.mk (Kd.R_below (by (with_reducible repeat (first | apply Kd.R_alloc | apply Kd.R_drewN | apply Kd.R_drew)); exact HO1231.out) hb); have n2_ := Aside0.mk (below_step (by repeat (first | (with_reducible first | exact HB.out | apply below_alloc | apply pw_below_drewN | apply below_drew1) | exact HB.out)) hb); clear HO1225; clear HO1231; clear HB; have HO1225 := n0_; have HO1231 := n1_; have HB := n2_; clear n0_ n1_ n2_; (try clear hb); (try clear hb2); (try clear hk); (try clear hi)) | (go_at_call 43; (with_reducible refine (impl_FitsRange.calls kj11 _ _ t1228 t1222 t1223 true _ ?side1 ?side2 A41.out).mono ?_); (case side1 => repeat (first | exact (Kd.R_reads' HO1231.out).2.2 | (with_reducible refine Kd.C_alloc ?_ _) | (with_reducible refine Kd.C_drewN ?_ _) | (with_reducible refine Kd.C_drew ?_))); (case side2 => exact (Kd.R_reads' HO1231.out).2.1); rintro e w57 ⟨rfl, hb⟩; have n0_ := Aside0.mk (Kd.R_below (by (with_reducible repeat (first | apply Kd.R_alloc | apply Kd.R_drewN | apply Kd.R_drew)); exact HO1225.out) hb); have n1_ := Aside0.mk (Kd.R_below (by (with_reducible repeat (first | apply Kd.R_alloc | apply Kd.R_drewN | apply Kd.R_drew)); exact HO1231.out) hb); have n2_ := Aside0.mk (below_step (by repeat (first | (with_reducible first | exact HB.out | apply below_alloc | apply pw_below_drewN | apply below_drew1) | exact HB.out)) hb); clear HO1225; clear HO1231; clear HB; have HO1225 := n0_; have HO1231 := n1_; have HB := n2_; clear n0_ n1_ n2_; (try clear hb); (try clear hb2); (try clear hk); (try clear hi)))
             go_meet
             case rel => exact ⟨_, H', ⟨by have := HJ11.out; first | omega | exact Nat.le_refl _⟩, ⟨by repeat (first | (with_reducible first | exact HB.out | apply below_alloc | apply pw_below_drewN | apply below_drew1) | exact HB.out)⟩⟩
          ·
           rw [if_neg c43] at H
           have c43b0 : decide (0 < (t1228.length : Int)) = false := decide_eq_false c43
           have c43b1 : decide (0 < t1228.length) = false := decide_eq_false (by omega)
           clear c43
           have H' := Aside0.mk H
           clear H
           go_wp2_with (first | ((with_reducible refine gate_callee (f := 41) rfl ?_); refine goesL_ (some 79) rfl rfl Try.func41 (by kernel_rfl) rfl #[.slice Ao34 t1221.length co34, .int .i64 t1226] rfl (by (try simp only [List.map_toArray, List.map_cons, List.map_nil]); first | done | rfl | (simp only [List.length_drop, List.length_take]; rfl)) ?_; (with_reducible refine (impl_MoveScore.calls kj11 _ _ t1221 t1226 t1228 true _ ?side1 ?side2 A37.out).mono ?_); (case side1 => repeat (first | exact (Kd.R_reads' HO1225.out).2.2 | (with_reducible refine Kd.C_alloc ?_ _) | (with_reducible refine Kd.C_drewN ?_ _) | (with_reducible refine Kd.C_drew ?_))); (case side2 => exact (Kd.R_reads' HO1225.out).2.1); rintro e w58 ⟨v1230, rfl, ho0, hb⟩; refine ⟨_, rfl, ?_⟩; have n0_ := Aside0.mk (Kd.R_elder' (by (with_reducible repeat (first | apply Kd.R_alloc | apply Kd.R_drewN | apply Kd.R_drew)); exact HO1225.out) (Kd.R_base ho0) hb); have n1_ := Aside0.mk (Kd.R_lower (Kd.R_new' ho0 (Kd.R_lt (by (with_reducible repeat (first | apply Kd.R_alloc | apply Kd.R_drewN | apply Kd.R_drew)); exact HO1225.out))) (below_size (by repeat (first | (with_reducible first | exact HB.out | apply below_alloc | apply pw_below_drewN | apply below_drew1) | exact HB.out)))); have n2_ := Aside0.mk (below_step (by repeat (first | (with_reducible first | exact HB.out | apply below_alloc | apply pw_below_drewN | apply below_drew1) | exact HB.out)) hb); clear HO1225; clear HB; have HO1225 := n0_; have HO1231 := n1_; have HB := n2_; clear n0_ n1_ n2_; (try clear hb); (try clear hb2); (try clear hk); (try clear hi); (try clear ho0); obtain ⟨Ao59, co59, eo59⟩ := Kd.R_slice HO1231.out; subst eo59) | ((with_reducible refine gate_callee (f := 42) rfl ?_); refine goesL_ (some 84) rfl rfl Try.func42 (by kernel_rfl) rfl #[.slice Ao59 t1228.length co59] rfl (by (try simp only [List.map_toArray, List.map_cons, List.map_nil]); first | done | rfl | (simp only [List.length_drop, List.length_take]; rfl)) ?_; (with_reducible refine (impl_LowHigh.calls kj11 _ _ t1228 t1232 t1233 _ ?side1 ?side2 A38.out).mono ?_); (case side1 => repeat (first | exact (Kd.R_reads' HO1231.out).2.2 | (with_reducible refine Kd.C_alloc ?_ _) | (with_reducible refine Kd.C_drewN ?_ _) | (with_reducible refine Kd.C_drew ?_))); (case side2 => exact (Kd.R_reads' HO1231.out).2.1); rintro e w60 ⟨rfl, hb⟩; refine ⟨_, rfl, ?_⟩; have n0_ := Aside0.mk (Kd.R_below (by (with_reducible repeat (first | apply Kd.R_alloc | apply Kd.R_drewN | apply Kd.R_drew)); exact HO1225.out) hb); have n1_ := Aside0.mk (Kd.R_below (by (with_reducible repeat (first | apply Kd.R_alloc | apply Kd.R_drewN | apply Kd.R_drew)); exact HO1231.out) hb); have n2_ := Aside0.mk (below_step (by repeat (first | (with_reducible first | exact HB.out | apply below_alloc | apply pw_below_drewN | apply below_drew1) | exact HB.out)) hb); clear HO1225; clear HO1231; clear HB; have HO1225 := n0_; have HO1231 := n1_; have HB := n2_; clear n0_ n1_ n2_; (try clear hb); (try clear hb2); (try clear hk); (try clear hi)) | (go_at_call 43; (with_reducible refine (impl_FitsRange.calls kj11 _ _ t1228 t1222 t1223 true _ ?side1 ?side2 A41.out).mono ?_); (case side1 => repeat (first | exact (Kd.R_reads' HO1231.out).2.2 | (with_reducible refine Kd.C_alloc ?_ _) | (with_reducible refine Kd.C_drewN ?_ _) | (with_reducible refine Kd.C_drew ?_))); (case side2 => exact (Kd.R_reads' HO1231.out).2.1); rintro e w61 ⟨rfl, hb⟩; have n0_ := Aside0.mk (Kd.R_below (by (with_reducible repeat (first | apply Kd.R_alloc | apply Kd.R_drewN | apply Kd.R_drew)); exact HO1225.out) hb); have n1_ := Aside0.mk (Kd.R_below (by (with_reducible repeat (first | apply Kd.R_alloc | apply Kd.R_drewN | apply Kd.R_drew)); exact HO1231.out) hb); have n2_ := Aside0.mk (below_step (by repeat (first | (with_reducible first | exact HB.out | apply below_alloc | apply pw_below_drewN | apply below_drew1) | exact HB.out)) hb); clear HO1225; clear HO1231; clear HB; have HO1225 := n0_; have HO1231 := n1_; have HB := n2_; clear n0_ n1_ n2_; (try clear hb); (try clear hb2); (try clear hk); (try clear hi)))
           go_meet
           case rel => exact ⟨_, H', ⟨by have := HJ11.out; first | omega | exact Nat.le_refl _⟩, ⟨by repeat (first | (with_reducible first | exact HB.out | apply below_alloc | apply pw_below_drewN | apply below_drew1) | exact HB.out)⟩⟩
         ·
          replace c42 := Bool.eq_false_iff.mpr c42
          subst c42
          rw [if_neg (show ¬ (false = true) by decide)] at H
          obtain rfl := Option.some.inj H
          go_wp2_with (first | ((with_reducible refine gate_callee (f := 41) rfl ?_); refine goesL_ (some 79) rfl rfl Try.func41 (by kernel_rfl) rfl #[.slice Ao34 t1221.length co34, .int .i64 t1226] rfl (by (try simp only [List.map_toArray, List.map_cons, List.map_nil]); first | done | rfl | (simp only [List.length_drop, List.length_take]; rfl)) ?_; (with_reducible refine (impl_MoveScore.calls kj11 _ _ t1221 t1226 t1228 true _ ?side1 ?side2 A37.out).mono ?_); (case side1 => repeat (first | exact (Kd.R_reads' HO1225.out).2.2 | (with_reducible refine Kd.C_alloc ?_ _) | (with_reducible refine Kd.C_drewN ?_ _) | (with_reducible refine Kd.C_drew ?_))); (case side2 => exact (Kd.R_reads' HO1225.out).2.1); rintro e w62 ⟨v1230, rfl, ho0, hb⟩; refine ⟨_, rfl, ?_⟩; have n0_ := Aside0.mk (Kd.R_elder' (by (with_reducible repeat (first | apply Kd.R_alloc | apply Kd.R_drewN | apply Kd.R_drew)); exact HO1225.out) (Kd.R_base ho0) hb); have n1_ := Aside0.mk (Kd.R_lower (Kd.R_new' ho0 (Kd.R_lt (by (with_reducible repeat (first | apply Kd.R_alloc | apply Kd.R_drewN | apply Kd.R_drew)); exact HO1225.out))) (below_size (by repeat (first | (with_reducible first | exact HB.out | apply below_alloc | apply pw_below_drewN | apply below_drew1) | exact HB.out)))); have n2_ := Aside0.mk (below_step (by repeat (first | (with_reducible first | exact HB.out | apply below_alloc | apply pw_below_drewN | apply below_drew1) | exact HB.out)) hb); clear HO1225; clear HB; have HO1225 := n0_; have HO1231 := n1_; have HB := n2_; clear n0_ n1_ n2_; (try clear hb); (try clear hb2); (try clear hk); (try clear hi); (try clear ho0); obtain ⟨Ao63, co63, eo63⟩ := Kd.R_slice HO1231.out; subst eo63) | ((with_reducible refine gate_callee (f := 42) rfl ?_); refine goesL_ (some 84) rfl rfl Try.func42 (by kernel_rfl) rfl #[.slice Ao63 t1228.length co63] rfl (by (try simp only [List.map_toArray, List.map_cons, List.map_nil]); first | done | rfl | (simp only [List.length_drop, List.length_take]; rfl)) ?_; (with_reducible refine (impl_LowHigh.calls kj11 _ _ t1228 t1232 t1233 _ ?side1 ?side2 A38.out).mono ?_); (case side1 => repeat (first | exact (Kd.R_reads' HO1231.out).2.2 | (with_reducible refine Kd.C_alloc ?_ _) | (with_reducible refine Kd.C_drewN ?_ _) | (with_reducible refine Kd.C_drew ?_))); (case side2 => exact (Kd.R_reads' HO1231.out).2.1); rintro e w64 ⟨rfl, hb⟩; refine ⟨_, rfl, ?_⟩; have n0_ := Aside0.mk (Kd.R_below (by (with_reducible repeat (first | apply Kd.R_alloc | apply Kd.R_drewN | apply Kd.R_drew)); exact HO1225.out) hb); have n1_ := Aside0.mk (Kd.R_below (by (with_reducible repeat (first | apply Kd.R_alloc | apply Kd.R_drewN | apply Kd.R_drew)); exact HO1231.out) hb); have n2_ := Aside0.mk (below_step (by repeat (first | (with_reducible first | exact HB.out | apply below_alloc | apply pw_below_drewN | apply below_drew1) | exact HB.out)) hb); clear HO1225; clear HO1231; clear HB; have HO1225 := n0_; have HO1231 := n1_; have HB := n2_; clear n0_ n1_ n2_; (try clear hb); (try clear hb2); (try clear hk); (try clear hi)) | (go_at_call 43; (with_reducible refine (impl_FitsRange.calls kj11 _ _ t1228 t1222 t1223 false _ ?side1 ?side2 A41.out).mono ?_); (case side1 => repeat (first | exact (Kd.R_reads' HO1231.out).2.2 | (with_reducible refine Kd.C_alloc ?_ _) | (with_reducible refine Kd.C_drewN ?_ _) | (with_reducible refine Kd.C_drew ?_))); (case side2 => exact (Kd.R_reads' HO1231.out).2.1); rintro e w65 ⟨rfl, hb⟩; have n0_ := Aside0.mk (Kd.R_below (by (with_reducible repeat (first | apply Kd.R_alloc | apply Kd.R_drewN | apply Kd.R_drew)); exact HO1225.out) hb); have n1_ := Aside0.mk (Kd.R_below (by (with_reducible repeat (first | apply Kd.R_alloc | apply Kd.R_drewN | apply Kd.R_drew)); exact HO1231.out) hb); have n2_ := Aside0.mk (below_step (by repeat (first | (with_reducible first | exact HB.out | apply below_alloc | apply pw_below_drewN | apply below_drew1) | exact HB.out)) hb); clear HO1225; clear HO1231; clear HB; have HO1225 := n0_; have HO1231 := n1_; have HB := n2_; clear n0_ n1_ n2_; (try clear hb); (try clear hb2); (try clear hk); (try clear hi)))
          go_ret
          exact ⟨by first | rfl | (simp [errW_none, errW_some] <;> rfl) | (simp [*, errW_none, errW_some] <;> rfl), by repeat (first | (with_reducible first | exact HB.out | apply below_alloc | apply pw_below_drewN | apply below_drew1) | exact HB.out)⟩
        ·
         rw [if_neg c40] at H
         have c40b0 : ((Int.tmod t1226 12) == 0) = false := beq_eq_false_iff_ne.mpr c40
         have c40b1 : ((Int.tmod t1226 12) != 0) = true := bne_iff_ne.mpr c40
         (first | rw [c40b0] | (simp only [i64_w, i32_w]; rw [c40b0]) | skip)
         obtain rfl := Option.some.inj H
         go_wp2_with (first | ((with_reducible refine gate_callee (f := 41) rfl ?_); refine goesL_ (some 79) rfl rfl Try.func41 (by kernel_rfl) rfl #[.slice Ao34 t1221.length co34, .int .i64 t1226] rfl (by (try simp only [List.map_toArray, List.map_cons, List.map_nil]); first | done | rfl | (simp only [List.length_drop, List.length_take]; rfl)) ?_; (with_reducible refine (impl_MoveScore.calls kj11 _ _ t1221 t1226 t1228 true _ ?side1 ?side2 A37.out).mono ?_); (case side1 => repeat (first | exact (Kd.R_reads' HO1225.out).2.2 | (with_reducible refine Kd.C_alloc ?_ _) | (with_reducible refine Kd.C_drewN ?_ _) | (with_reducible refine Kd.C_drew ?_))); (case side2 => exact (Kd.R_reads' HO1225.out).2.1); rintro e w66 ⟨v1230, rfl, ho0, hb⟩; refine ⟨_, rfl, ?_⟩; have n0_ := Aside0.mk (Kd.R_elder' (by (with_reducible repeat (first | apply Kd.R_alloc | apply Kd.R_drewN | apply Kd.R_drew)); exact HO1225.out) (Kd.R_base ho0) hb); have n1_ := Aside0.mk (Kd.R_lower (Kd.R_new' ho0 (Kd.R_lt (by (with_reducible repeat (first | apply Kd.R_alloc | apply Kd.R_drewN | apply Kd.R_drew)); exact HO1225.out))) (below_size (by repeat (first | (with_reducible first | exact HB.out | apply below_alloc | apply pw_below_drewN | apply below_drew1) | exact HB.out)))); have n2_ := Aside0.mk (below_step (by repeat (first | (with_reducible first | exact HB.out | apply below_alloc | apply pw_below_drewN | apply below_drew1) | exact HB.out)) hb); clear HO1225; clear HB; have HO1225 := n0_; have HO1231 := n1_; have HB := n2_; clear n0_ n1_ n2_; (try clear hb); (try clear hb2); (try clear hk); (try clear hi); (try clear ho0); obtain ⟨Ao67, co67, eo67⟩ := Kd.R_slice HO1231.out; subst eo67) | ((with_reducible refine gate_callee (f := 42) rfl ?_); refine goesL_ (some 84) rfl rfl Try.func42 (by kernel_rfl) rfl #[.slice Ao67 t1228.length co67] rfl (by (try simp only [List.map_toArray, List.map_cons, List.map_nil]); first | done | rfl | (simp only [List.length_drop, List.length_take]; rfl)) ?_; (with_reducible refine (impl_LowHigh.calls kj11 _ _ t1228 t1232 t1233 _ ?side1 ?side2 A38.out).mono ?_); (case side1 => repeat (first | exact (Kd.R_reads' HO1231.out).2.2 | (with_reducible refine Kd.C_alloc ?_ _) | (with_reducible refine Kd.C_drewN ?_ _) | (with_reducible refine Kd.C_drew ?_))); (case side2 => exact (Kd.R_reads' HO1231.out).2.1); rintro e w68 ⟨rfl, hb⟩; refine ⟨_, rfl, ?_⟩; have n0_ := Aside0.mk (Kd.R_below (by (with_reducible repeat (first | apply Kd.R_alloc | apply Kd.R_drewN | apply Kd.R_drew)); exact HO1225.out) hb); have n1_ := Aside0.mk (Kd.R_below (by (with_reducible repeat (first | apply Kd.R_alloc | apply Kd.R_drewN | apply Kd.R_drew)); exact HO1231.out) hb); have n2_ := Aside0.mk (below_step (by repeat (first | (with_reducible first | exact HB.out | apply below_alloc | apply pw_below_drewN | apply below_drew1) | exact HB.out)) hb); clear HO1225; clear HO1231; clear HB; have HO1225 := n0_; have HO1231 := n1_; have HB := n2_; clear n0_ n1_ n2_; (try clear hb); (try clear hb2); (try clear hk); (try clear hi)))
         go_ret
         exact ⟨by first | rfl | (simp [errW_none, errW_some] <;> rfl) | (simp [*, errW_none, errW_some] <;> rfl), by repeat (first | (with_reducible first | exact HB.out | apply below_alloc | apply pw_below_drewN | apply below_drew1) | exact HB.out)⟩
       ·
        replace c39 := Bool.eq_false_iff.mpr c39
        subst c39
        rw [if_neg (show ¬ (false = true) by decide)] at H
        obtain rfl := Option.some.inj H
        go_wp2_with (first | ((with_reducible refine gate_callee (f := 41) rfl ?_); refine goesL_ (some 79) rfl rfl Try.func41 (by kernel_rfl) rfl #[.slice Ao34 t1221.length co34, .int .i64 t1226] rfl (by (try simp only [List.map_toArray, List.map_cons, List.map_nil]); first | done | rfl | (simp only [List.length_drop, List.length_take]; rfl)) ?_; (with_reducible refine (impl_MoveScore.calls kj11 _ _ t1221 t1226 t1228 false _ ?side1 ?side2 A37.out).mono ?_); (case side1 => repeat (first | exact (Kd.R_reads' HO1225.out).2.2 | (with_reducible refine Kd.C_alloc ?_ _) | (with_reducible refine Kd.C_drewN ?_ _) | (with_reducible refine Kd.C_drew ?_))); (case side2 => exact (Kd.R_reads' HO1225.out).2.1); rintro e w69 ⟨v1230, rfl, ho0, hb⟩; refine ⟨_, rfl, ?_⟩; have n0_ := Aside0.mk (Kd.R_elder' (by (with_reducible repeat (first | apply Kd.R_alloc | apply Kd.R_drewN | apply Kd.R_drew)); exact HO1225.out) (Kd.R_base ho0) hb); have n1_ := Aside0.mk (Kd.R_lower (Kd.R_new' ho0 (Kd.R_lt (by (with_reducible repeat (first | apply Kd.R_alloc | apply Kd.R_drewN | apply Kd.R_drew)); exact HO1225.out))) (below_size (by repeat (first | (with_reducible first | exact HB.out | apply below_alloc | apply pw_below_drewN | apply below_drew1) | exact HB.out)))); have n2_ := Aside0.mk (below_step (by repeat (first | (with_reducible first | exact HB.out | apply below_alloc | apply pw_below_drewN | apply below_drew1) | exact HB.out)) hb); clear HO1225; clear HB; have HO1225 := n0_; have HO1231 := n1_; have HB := n2_; clear n0_ n1_ n2_; (try clear hb); (try clear hb2); (try clear hk); (try clear hi); (try clear ho0); obtain ⟨Ao70, co70, eo70⟩ := Kd.R_slice HO1231.out; subst eo70) | ((with_reducible refine gate_callee (f := 42) rfl ?_); refine goesL_ (some 84) rfl rfl Try.func42 (by kernel_rfl) rfl #[.slice Ao70 t1228.length co70] rfl (by (try simp only [List.map_toArray, List.map_cons, List.map_nil]); first | done | rfl | (simp only [List.length_drop, List.length_take]; rfl)) ?_; (with_reducible refine (impl_LowHigh.calls kj11 _ _ t1228 t1232 t1233 _ ?side1 ?side2 A38.out).mono ?_); (case side1 => repeat (first | exact (Kd.R_reads' HO1231.out).2.2 | (with_reducible refine Kd.C_alloc ?_ _) | (with_reducible refine Kd.C_drewN ?_ _) | (with_reducible refine Kd.C_drew ?_))); (case side2 => exact (Kd.R_reads' HO1231.out).2.1); rintro e w71 ⟨rfl, hb⟩; refine ⟨_, rfl, ?_⟩; have n0_ := Aside0.mk (Kd.R_below (by (with_reducible repeat (first | apply Kd.R_alloc | apply Kd.R_drewN | apply Kd.R_drew)); exact HO1225.out) hb); have n1_ := Aside0.mk (Kd.R_below (by (with_reducible repeat (first | apply Kd.R_alloc | apply Kd.R_drewN | apply Kd.R_drew)); exact HO1231.out) hb); have n2_ := Aside0.mk (below_step (by repeat (first | (with_reducible first | exact HB.out | apply below_alloc | apply pw_below_drewN | apply below_drew1) | exact HB.out)) hb); clear HO1225; clear HO1231; clear HB; have HO1225 := n0_; have HO1231 := n1_; have HB := n2_; clear n0_ n1_ n2_; (try clear hb); (try clear hb2); (try clear hk); (try clear hi)))
        go_ret
        exact ⟨by first | rfl | (simp [errW_none, errW_some] <;> rfl) | (simp [*, errW_none, errW_some] <;> rfl), by repeat (first | (with_reducible first | exact HB.out | apply below_alloc | apply pw_below_drewN | apply below_drew1) | exact HB.out)⟩
      ·
       replace c36 := Bool.eq_false_iff.mpr c36
       subst c36
       rw [if_neg (show ¬ (false = true) by decide)] at H
       have H' := Aside0.mk H
       clear H
       go_wp2
       go_meet
       case rel => exact ⟨_, H', ⟨by have := HJ11.out; first | omega | exact Nat.le_refl _⟩, ⟨by repeat (first | (with_reducible first | exact HB.out | apply below_alloc | apply pw_below_drewN | apply below_drew1) | exact HB.out)⟩⟩
     case rest =>
      clear HC32
      try clear c1
      try clear c2
      try clear p2
      try clear c3
      try clear c4
      try clear c6
      try clear c7
      try clear c7b0
      try clear c7b1
      try clear c7b2
      try clear c10
      try clear c17
      try clear c19
      try clear c21
      try clear c35
      try clear c36
      try clear c37
      try clear c38
      try clear c39
      try clear c40
      try clear c40b0
      try clear c40b1
      try clear c41
      try clear c42
      try clear c43
      try clear c43b0
      try clear c43b1
      try clear c44
      try clear c44b0
      try clear c49
      try clear c49b0
      try clear p2
      obtain ⟨kq, HA, HJ31, HB⟩ := hcut
      cases kq with
      | zero => exact absurd HA.out (by simp [laws_FnMoves.j1])
      | succ kj31 =>
       have H := HA.out
       clear HA
       simp only [laws_FnMoves.j1] at H
       replace H := Option.bind_eq_some_iff.mp H
       obtain ⟨⟨t1235, t1236, t1237⟩, A720, H⟩ := H
       try dsimp only at H
       have A72 := Aside0.mk A720
       clear A720
       replace H := Option.bind_eq_some_iff.mp H
       obtain ⟨⟨t1240, t1241⟩, A730, H⟩ := H
       try dsimp only at H
       have A73 := Aside0.mk A730
       clear A730
       replace H := Option.bind_eq_some_iff.mp H
       obtain ⟨t1242, A740, H⟩ := H
       try dsimp only at H
       have A74 := Aside0.mk A740
       clear A740
       replace H := Option.bind_eq_some_iff.mp H
       obtain ⟨t1243, A750, H⟩ := H
       try dsimp only at H
       have A75 := Aside0.mk A750
       clear A750
       by_cases c76 : t1243 = true
       ·
        subst c76
        rw [if_pos rfl] at H
        by_cases c77 : (t1235.length : Int) = 0
        ·
         rw [if_pos c77] at H
         have c77b0 : ((t1235.length : Int) == 0) = true := beq_iff_eq.mpr c77
         have c77b1 : ((t1235.length : Int) != 0) = false := bne_eq_false_iff_eq.mpr c77
         clear c77
         obtain rfl := Option.some.inj H
         go_wp2_with (first | ((with_reducible refine gate_callee (f := 44) rfl ?_); refine goesL_ (some 118) rfl rfl Try.func44 (by kernel_rfl) rfl #[.slice A0 l0.length c0] rfl (by (try simp only [List.map_toArray, List.map_cons, List.map_nil]); first | done | rfl | (simp only [List.length_drop, List.length_take]; rfl)) ?_; (with_reducible refine (spec_DrawFitsRange.calls kj31 _ _ l0 t1235 t1236 t1237 _ ?side1 ?side2 A72.out).mono ?_); (case side1 => repeat (first | exact (Kd.C_below HR0.out HB.out) | (with_reducible refine Kd.C_alloc ?_ _) | (with_reducible refine Kd.C_drewN ?_ _) | (with_reducible refine Kd.C_drew ?_))); (case side2 => exact HC0.out); rintro e w78 ⟨v1238, rfl, ho0, hb⟩; refine ⟨_, rfl, ?_⟩; have n0_ := Aside0.mk (Kd.R_lower ho0 (below_size (by repeat (first | (with_reducible first | exact HB.out | apply below_alloc | apply pw_below_drewN | apply below_drew1) | exact HB.out)))); have n1_ := Aside0.mk (below_step (by repeat (first | (with_reducible first | exact HB.out | apply below_alloc | apply pw_below_drewN | apply below_drew1) | exact HB.out)) hb); clear HB; have HO1239 := n0_; have HB := n1_; clear n0_ n1_; (try clear hb); (try clear hb2); (try clear hk); (try clear hi); (try clear ho0); obtain ⟨Ao79, co79, eo79⟩ := Kd.R_slice HO1239.out; subst eo79) | ((with_reducible refine gate_callee (f := 42) rfl ?_); refine goesL_ (some 124) rfl rfl Try.func42 (by kernel_rfl) rfl #[.slice Ao79 t1235.length co79] rfl (by (try simp only [List.map_toArray, List.map_cons, List.map_nil]); first | done | rfl | (simp only [List.length_drop, List.length_take]; rfl)) ?_; (with_reducible refine (impl_LowHigh.calls kj31 _ _ t1235 t1240 t1241 _ ?side1 ?side2 A73.out).mono ?_); (case side1 => repeat (first | exact (Kd.R_reads' HO1239.out).2.2 | (with_reducible refine Kd.C_alloc ?_ _) | (with_reducible refine Kd.C_drewN ?_ _) | (with_reducible refine Kd.C_drew ?_))); (case side2 => exact (Kd.R_reads' HO1239.out).2.1); rintro e w80 ⟨rfl, hb⟩; refine ⟨_, rfl, ?_⟩; have n0_ := Aside0.mk (Kd.R_below (by (with_reducible repeat (first | apply Kd.R_alloc | apply Kd.R_drewN | apply Kd.R_drew)); exact HO1239.out) hb); have n1_ := Aside0.mk (below_step (by repeat (first | (with_reducible first | exact HB.out | apply below_alloc | apply pw_below_drewN | apply below_drew1) | exact HB.out)) hb); clear HO1239; clear HB; have HO1239 := n0_; have HB := n1_; clear n0_ n1_; (try clear hb); (try clear hb2); (try clear hk); (try clear hi)) | ((with_reducible refine gate_callee (f := 43) rfl ?_); refine goesL_ (some 130) rfl rfl Try.func43 (by kernel_rfl) rfl #[.slice Ao79 t1235.length co79, .int .i64 t1236, .int .i64 t1237] rfl (by (try simp only [List.map_toArray, List.map_cons, List.map_nil]); first | done | rfl | (simp only [List.length_drop, List.length_take]; rfl)) ?_; (with_reducible refine (impl_FitsRange.calls kj31 _ _ t1235 t1236 t1237 t1242 _ ?side1 ?side2 A74.out).mono ?_); (case side1 => repeat (first | exact (Kd.R_reads' HO1239.out).2.2 | (with_reducible refine Kd.C_alloc ?_ _) | (with_reducible refine Kd.C_drewN ?_ _) | (with_reducible refine Kd.C_drew ?_))); (case side2 => exact (Kd.R_reads' HO1239.out).2.1); rintro e w81 ⟨rfl, hb⟩; refine ⟨_, rfl, ?_⟩; have n0_ := Aside0.mk (Kd.R_below (by (with_reducible repeat (first | apply Kd.R_alloc | apply Kd.R_drewN | apply Kd.R_drew)); exact HO1239.out) hb); have n1_ := Aside0.mk (below_step (by repeat (first | (with_reducible first | exact HB.out | apply below_alloc | apply pw_below_drewN | apply below_drew1) | exact HB.out)) hb); clear HO1239; clear HB; have HO1239 := n0_; have HB := n1_; clear n0_ n1_; (try clear hb); (try clear hb2); (try clear hk); (try clear hi)) | ((with_reducible refine gate_callee (f := 14) rfl ?_); refine goesL_ (some 132) rfl rfl Try.func14 (by kernel_rfl) rfl #[.slice Ao79 t1235.length co79] rfl (by (try simp only [List.map_toArray, List.map_cons, List.map_nil]); first | done | rfl | (simp only [List.length_drop, List.length_take]; rfl)) ?_; (with_reducible refine (impl_IsScore.calls kj31 _ _ t1235 true _ ?side1 ?side2 A75.out).mono ?_); (case side1 => repeat (first | exact (Kd.R_reads' HO1239.out).2.2 | (with_reducible refine Kd.C_alloc ?_ _) | (with_reducible refine Kd.C_drewN ?_ _) | (with_reducible refine Kd.C_drew ?_))); (case side2 => exact (Kd.R_reads' HO1239.out).2.1); rintro e w82 ⟨rfl, hb⟩; refine ⟨_, rfl, ?_⟩; have n0_ := Aside0.mk (Kd.R_below (by (with_reducible repeat (first | apply Kd.R_alloc | apply Kd.R_drewN | apply Kd.R_drew)); exact HO1239.out) hb); have n1_ := Aside0.mk (below_step (by repeat (first | (with_reducible first | exact HB.out | apply below_alloc | apply pw_below_drewN | apply below_drew1) | exact HB.out)) hb); clear HO1239; clear HB; have HO1239 := n0_; have HB := n1_; clear n0_ n1_; (try clear hb); (try clear hb2); (try clear hk); (try clear hi)))
         go_ret
         exact ⟨by first | rfl | (simp [errW_none, errW_some] <;> rfl) | (simp [*, errW_none, errW_some] <;> rfl), by repeat (first | (with_reducible first | exact HB.out | apply below_alloc | apply pw_below_drewN | apply below_drew1) | exact HB.out)⟩
        ·
         rw [if_neg c77] at H
         have c77b0 : ((t1235.length : Int) == 0) = false := beq_eq_false_iff_ne.mpr c77
         have c77b1 : ((t1235.length : Int) != 0) = true := bne_iff_ne.mpr c77
         have c77b2 : ¬ (t1235 = []) := fun h_ => c77 (by rw [h_]; rfl)
         by_cases c83 : t1240 ≥ t1236
         ·
          rw [if_pos c83] at H
          have c83b0 : decide (t1236 ≤ t1240) = true := decide_eq_true c83
          clear c83
          obtain rfl := Option.some.inj H
          go_wp2_with (first | ((with_reducible refine gate_callee (f := 44) rfl ?_); refine goesL_ (some 118) rfl rfl Try.func44 (by kernel_rfl) rfl #[.slice A0 l0.length c0] rfl (by (try simp only [List.map_toArray, List.map_cons, List.map_nil]); first | done | rfl | (simp only [List.length_drop, List.length_take]; rfl)) ?_; (with_reducible refine (spec_DrawFitsRange.calls kj31 _ _ l0 t1235 t1236 t1237 _ ?side1 ?side2 A72.out).mono ?_); (case side1 => repeat (first | exact (Kd.C_below HR0.out HB.out) | (with_reducible refine Kd.C_alloc ?_ _) | (with_reducible refine Kd.C_drewN ?_ _) | (with_reducible refine Kd.C_drew ?_))); (case side2 => exact HC0.out); rintro e w84 ⟨v1238, rfl, ho0, hb⟩; refine ⟨_, rfl, ?_⟩; have n0_ := Aside0.mk (Kd.R_lower ho0 (below_size (by repeat (first | (with_reducible first | exact HB.out | apply below_alloc | apply pw_below_drewN | apply below_drew1) | exact HB.out)))); have n1_ := Aside0.mk (below_step (by repeat (first | (with_reducible first | exact HB.out | apply below_alloc | apply pw_below_drewN | apply below_drew1) | exact HB.out)) hb); clear HB; have HO1239 := n0_; have HB := n1_; clear n0_ n1_; (try clear hb); (try clear hb2); (try clear hk); (try clear hi); (try clear ho0); obtain ⟨Ao85, co85, eo85⟩ := Kd.R_slice HO1239.out; subst eo85) | ((with_reducible refine gate_callee (f := 42) rfl ?_); refine goesL_ (some 124) rfl rfl Try.func42 (by kernel_rfl) rfl #[.slice Ao85 t1235.length co85] rfl (by (try simp only [List.map_toArray, List.map_cons, List.map_nil]); first | done | rfl | (simp only [List.length_drop, List.length_take]; rfl)) ?_; (with_reducible refine (impl_LowHigh.calls kj31 _ _ t1235 t1240 t1241 _ ?side1 ?side2 A73.out).mono ?_); (case side1 => repeat (first | exact (Kd.R_reads' HO1239.out).2.2 | (with_reducible refine Kd.C_alloc ?_ _) | (with_reducible refine Kd.C_drewN ?_ _) | (with_reducible refine Kd.C_drew ?_))); (case side2 => exact (Kd.R_reads' HO1239.out).2.1); rintro e w86 ⟨rfl, hb⟩; refine ⟨_, rfl, ?_⟩; have n0_ := Aside0.mk (Kd.R_below (by (with_reducible repeat (first | apply Kd.R_alloc | apply Kd.R_drewN | apply Kd.R_drew)); exact HO1239.out) hb); have n1_ := Aside0.mk (below_step (by repeat (first | (with_reducible first | exact HB.out | apply below_alloc | apply pw_below_drewN | apply below_drew1) | exact HB.out)) hb); clear HO1239; clear HB; have HO1239 := n0_; have HB := n1_; clear n0_ n1_; (try clear hb); (try clear hb2); (try clear hk); (try clear hi)) | ((with_reducible refine gate_callee (f := 43) rfl ?_); refine goesL_ (some 130) rfl rfl Try.func43 (by kernel_rfl) rfl #[.slice Ao85 t1235.length co85, .int .i64 t1236, .int .i64 t1237] rfl (by (try simp only [List.map_toArray, List.map_cons, List.map_nil]); first | done | rfl | (simp only [List.length_drop, List.length_take]; rfl)) ?_; (with_reducible refine (impl_FitsRange.calls kj31 _ _ t1235 t1236 t1237 t1242 _ ?side1 ?side2 A74.out).mono ?_); (case side1 => repeat (first | exact (Kd.R_reads' HO1239.out).2.2 | (with_reducible refine Kd.C_alloc ?_ _) | (with_reducible refine Kd.C_drewN ?_ _) | (with_reducible refine Kd.C_drew ?_))); (case side2 => exact (Kd.R_reads' HO1239.out).2.1); rintro e w87 ⟨rfl, hb⟩; refine ⟨_, rfl, ?_⟩; have n0_ := Aside0.mk (Kd.R_below (by (with_reducible repeat (first | apply Kd.R_alloc | apply Kd.R_drewN | apply Kd.R_drew)); exact HO1239.out) hb); have n1_ := Aside0.mk (below_step (by repeat (first | (with_reducible first | exact HB.out | apply below_alloc | apply pw_below_drewN | apply below_drew1) | exact HB.out)) hb); clear HO1239; clear HB; have HO1239 := n0_; have HB := n1_; clear n0_ n1_; (try clear hb); (try clear hb2); (try clear hk); (try clear hi)) | ((with_reducible refine gate_callee (f := 14) rfl ?_); refine goesL_ (some 132) rfl rfl Try.func14 (by kernel_rfl) rfl #[.slice Ao85 t1235.length co85] rfl (by (try simp only [List.map_toArray, List.map_cons, List.map_nil]); first | done | rfl | (simp only [List.length_drop, List.length_take]; rfl)) ?_; (with_reducible refine (impl_IsScore.calls kj31 _ _ t1235 true _ ?side1 ?side2 A75.out).mono ?_); (case side1 => repeat (first | exact (Kd.R_reads' HO1239.out).2.2 | (with_reducible refine Kd.C_alloc ?_ _) | (with_reducible refine Kd.C_drewN ?_ _) | (with_reducible refine Kd.C_drew ?_))); (case side2 => exact (Kd.R_reads' HO1239.out).2.1); rintro e w88 ⟨rfl, hb⟩; refine ⟨_, rfl, ?_⟩; have n0_ := Aside0.mk (Kd.R_below (by (with_reducible repeat (first | apply Kd.R_alloc | apply Kd.R_drewN | apply Kd.R_drew)); exact HO1239.out) hb); have n1_ := Aside0.mk (below_step (by repeat (first | (with_reducible first | exact HB.out | apply below_alloc | apply pw_below_drewN | apply below_drew1) | exact HB.out)) hb); clear HO1239; clear HB; have HO1239 := n0_; have HB := n1_; clear n0_ n1_; (try clear hb); (try clear hb2); (try clear hk); (try clear hi)))
          go_ret
          exact ⟨by first | rfl | (simp [errW_none, errW_some] <;> rfl) | (simp [*, errW_none, errW_some] <;> rfl), by repeat (first | (with_reducible first | exact HB.out | apply below_alloc | apply pw_below_drewN | apply below_drew1) | exact HB.out)⟩
         ·
          rw [if_neg c83] at H
          have c83b0 : decide (t1236 ≤ t1240) = false := decide_eq_false c83
          clear c83
          obtain rfl := Option.some.inj H
          go_wp2_with (first | ((with_reducible refine gate_callee (f := 44) rfl ?_); refine goesL_ (some 118) rfl rfl Try.func44 (by kernel_rfl) rfl #[.slice A0 l0.length c0] rfl (by (try simp only [List.map_toArray, List.map_cons, List.map_nil]); first | done | rfl | (simp only [List.length_drop, List.length_take]; rfl)) ?_; (with_reducible refine (spec_DrawFitsRange.calls kj31 _ _ l0 t1235 t1236 t1237 _ ?side1 ?side2 A72.out).mono ?_); (case side1 => repeat (first | exact (Kd.C_below HR0.out HB.out) | (with_reducible refine Kd.C_alloc ?_ _) | (with_reducible refine Kd.C_drewN ?_ _) | (with_reducible refine Kd.C_drew ?_))); (case side2 => exact HC0.out); rintro e w89 ⟨v1238, rfl, ho0, hb⟩; refine ⟨_, rfl, ?_⟩; have n0_ := Aside0.mk (Kd.R_lower ho0 (below_size (by repeat (first | (with_reducible first | exact HB.out | apply below_alloc | apply pw_below_drewN | apply below_drew1) | exact HB.out)))); have n1_ := Aside0.mk (below_step (by repeat (first | (with_reducible first | exact HB.out | apply below_alloc | apply pw_below_drewN | apply below_drew1) | exact HB.out)) hb); clear HB; have HO1239 := n0_; have HB := n1_; clear n0_ n1_; (try clear hb); (try clear hb2); (try clear hk); (try clear hi); (try clear ho0); obtain ⟨Ao90, co90, eo90⟩ := Kd.R_slice HO1239.out; subst eo90) | ((with_reducible refine gate_callee (f := 42) rfl ?_); refine goesL_ (some 124) rfl rfl Try.func42 (by kernel_rfl) rfl #[.slice Ao90 t1235.length co90] rfl (by (try simp only [List.map_toArray, List.map_cons, List.map_nil]); first | done | rfl | (simp only [List.length_drop, List.length_take]; rfl)) ?_; (with_reducible refine (impl_LowHigh.calls kj31 _ _ t1235 t1240 t1241 _ ?side1 ?side2 A73.out).mono ?_); (case side1 => repeat (first | exact (Kd.R_reads' HO1239.out).2.2 | (with_reducible refine Kd.C_alloc ?_ _) | (with_reducible refine Kd.C_drewN ?_ _) | (with_reducible refine Kd.C_drew ?_))); (case side2 => exact (Kd.R_reads' HO1239.out).2.1); rintro e w91 ⟨rfl, hb⟩; refine ⟨_, rfl, ?_⟩; have n0_ := Aside0.mk (Kd.R_below (by (with_reducible repeat (first | apply Kd.R_alloc | apply Kd.R_drewN | apply Kd.R_drew)); exact HO1239.out) hb); have n1_ := Aside0.mk (below_step (by repeat (first | (with_reducible first | exact HB.out | apply below_alloc | apply pw_below_drewN | apply below_drew1) | exact HB.out)) hb); clear HO1239; clear HB; have HO1239 := n0_; have HB := n1_; clear n0_ n1_; (try clear hb); (try clear hb2); (try clear hk); (try clear hi)) | ((with_reducible refine gate_callee (f := 43) rfl ?_); refine goesL_ (some 130) rfl rfl Try.func43 (by kernel_rfl) rfl #[.slice Ao90 t1235.length co90, .int .i64 t1236, .int .i64 t1237] rfl (by (try simp only [List.map_toArray, List.map_cons, List.map_nil]); first | done | rfl | (simp only [List.length_drop, List.length_take]; rfl)) ?_; (with_reducible refine (impl_FitsRange.calls kj31 _ _ t1235 t1236 t1237 t1242 _ ?side1 ?side2 A74.out).mono ?_); (case side1 => repeat (first | exact (Kd.R_reads' HO1239.out).2.2 | (with_reducible refine Kd.C_alloc ?_ _) | (with_reducible refine Kd.C_drewN ?_ _) | (with_reducible refine Kd.C_drew ?_))); (case side2 => exact (Kd.R_reads' HO1239.out).2.1); rintro e w92 ⟨rfl, hb⟩; refine ⟨_, rfl, ?_⟩; have n0_ := Aside0.mk (Kd.R_below (by (with_reducible repeat (first | apply Kd.R_alloc | apply Kd.R_drewN | apply Kd.R_drew)); exact HO1239.out) hb); have n1_ := Aside0.mk (below_step (by repeat (first | (with_reducible first | exact HB.out | apply below_alloc | apply pw_below_drewN | apply below_drew1) | exact HB.out)) hb); clear HO1239; clear HB; have HO1239 := n0_; have HB := n1_; clear n0_ n1_; (try clear hb); (try clear hb2); (try clear hk); (try clear hi)) | ((with_reducible refine gate_callee (f := 14) rfl ?_); refine goesL_ (some 132) rfl rfl Try.func14 (by kernel_rfl) rfl #[.slice Ao90 t1235.length co90] rfl (by (try simp only [List.map_toArray, List.map_cons, List.map_nil]); first | done | rfl | (simp only [List.length_drop, List.length_take]; rfl)) ?_; (with_reducible refine (impl_IsScore.calls kj31 _ _ t1235 true _ ?side1 ?side2 A75.out).mono ?_); (case side1 => repeat (first | exact (Kd.R_reads' HO1239.out).2.2 | (with_reducible refine Kd.C_alloc ?_ _) | (with_reducible refine Kd.C_drewN ?_ _) | (with_reducible refine Kd.C_drew ?_))); (case side2 => exact (Kd.R_reads' HO1239.out).2.1); rintro e w93 ⟨rfl, hb⟩; refine ⟨_, rfl, ?_⟩; have n0_ := Aside0.mk (Kd.R_below (by (with_reducible repeat (first | apply Kd.R_alloc | apply Kd.R_drewN | apply Kd.R_drew)); exact HO1239.out) hb); have n1_ := Aside0.mk (below_step (by repeat (first | (with_reducible first | exact HB.out | apply below_alloc | apply pw_below_drewN | apply below_drew1) | exact HB.out)) hb); clear HO1239; clear HB; have HO1239 := n0_; have HB := n1_; clear n0_ n1_; (try clear hb); (try clear hb2); (try clear hk); (try clear hi)))
          go_ret
          exact ⟨by first | rfl | (simp [errW_none, errW_some] <;> rfl) | (simp [*, errW_none, errW_some] <;> rfl), by repeat (first | (with_reducible first | exact HB.out | apply below_alloc | apply pw_below_drewN | apply below_drew1) | exact HB.out)⟩
       ·
        replace c76 := Bool.eq_false_iff.mpr c76
        subst c76
        rw [if_neg (show ¬ (false = true) by decide)] at H
        obtain rfl := Option.some.inj H
        go_wp2_with (first | ((with_reducible refine gate_callee (f := 44) rfl ?_); refine goesL_ (some 118) rfl rfl Try.func44 (by kernel_rfl) rfl #[.slice A0 l0.length c0] rfl (by (try simp only [List.map_toArray, List.map_cons, List.map_nil]); first | done | rfl | (simp only [List.length_drop, List.length_take]; rfl)) ?_; (with_reducible refine (spec_DrawFitsRange.calls kj31 _ _ l0 t1235 t1236 t1237 _ ?side1 ?side2 A72.out).mono ?_); (case side1 => repeat (first | exact (Kd.C_below HR0.out HB.out) | (with_reducible refine Kd.C_alloc ?_ _) | (with_reducible refine Kd.C_drewN ?_ _) | (with_reducible refine Kd.C_drew ?_))); (case side2 => exact HC0.out); rintro e w94 ⟨v1238, rfl, ho0, hb⟩; refine ⟨_, rfl, ?_⟩; have n0_ := Aside0.mk (Kd.R_lower ho0 (below_size (by repeat (first | (with_reducible first | exact HB.out | apply below_alloc | apply pw_below_drewN | apply below_drew1) | exact HB.out)))); have n1_ := Aside0.mk (below_step (by repeat (first | (with_reducible first | exact HB.out | apply below_alloc | apply pw_below_drewN | apply below_drew1) | exact HB.out)) hb); clear HB; have HO1239 := n0_; have HB := n1_; clear n0_ n1_; (try clear hb); (try clear hb2); (try clear hk); (try clear hi); (try clear ho0); obtain ⟨Ao95, co95, eo95⟩ := Kd.R_slice HO1239.out; subst eo95) | ((with_reducible refine gate_callee (f := 42) rfl ?_); refine goesL_ (some 124) rfl rfl Try.func42 (by kernel_rfl) rfl #[.slice Ao95 t1235.length co95] rfl (by (try simp only [List.map_toArray, List.map_cons, List.map_nil]); first | done | rfl | (simp only [List.length_drop, List.length_take]; rfl)) ?_; (with_reducible refine (impl_LowHigh.calls kj31 _ _ t1235 t1240 t1241 _ ?side1 ?side2 A73.out).mono ?_); (case side1 => repeat (first | exact (Kd.R_reads' HO1239.out).2.2 | (with_reducible refine Kd.C_alloc ?_ _) | (with_reducible refine Kd.C_drewN ?_ _) | (with_reducible refine Kd.C_drew ?_))); (case side2 => exact (Kd.R_reads' HO1239.out).2.1); rintro e w96 ⟨rfl, hb⟩; refine ⟨_, rfl, ?_⟩; have n0_ := Aside0.mk (Kd.R_below (by (with_reducible repeat (first | apply Kd.R_alloc | apply Kd.R_drewN | apply Kd.R_drew)); exact HO1239.out) hb); have n1_ := Aside0.mk (below_step (by repeat (first | (with_reducible first | exact HB.out | apply below_alloc | apply pw_below_drewN | apply below_drew1) | exact HB.out)) hb); clear HO1239; clear HB; have HO1239 := n0_; have HB := n1_; clear n0_ n1_; (try clear hb); (try clear hb2); (try clear hk); (try clear hi)) | ((with_reducible refine gate_callee (f := 43) rfl ?_); refine goesL_ (some 130) rfl rfl Try.func43 (by kernel_rfl) rfl #[.slice Ao95 t1235.length co95, .int .i64 t1236, .int .i64 t1237] rfl (by (try simp only [List.map_toArray, List.map_cons, List.map_nil]); first | done | rfl | (simp only [List.length_drop, List.length_take]; rfl)) ?_; (with_reducible refine (impl_FitsRange.calls kj31 _ _ t1235 t1236 t1237 t1242 _ ?side1 ?side2 A74.out).mono ?_); (case side1 => repeat (first | exact (Kd.R_reads' HO1239.out).2.2 | (with_reducible refine Kd.C_alloc ?_ _) | (with_reducible refine Kd.C_drewN ?_ _) | (with_reducible refine Kd.C_drew ?_))); (case side2 => exact (Kd.R_reads' HO1239.out).2.1); rintro e w97 ⟨rfl, hb⟩; refine ⟨_, rfl, ?_⟩; have n0_ := Aside0.mk (Kd.R_below (by (with_reducible repeat (first | apply Kd.R_alloc | apply Kd.R_drewN | apply Kd.R_drew)); exact HO1239.out) hb); have n1_ := Aside0.mk (below_step (by repeat (first | (with_reducible first | exact HB.out | apply below_alloc | apply pw_below_drewN | apply below_drew1) | exact HB.out)) hb); clear HO1239; clear HB; have HO1239 := n0_; have HB := n1_; clear n0_ n1_; (try clear hb); (try clear hb2); (try clear hk); (try clear hi)) | ((with_reducible refine gate_callee (f := 14) rfl ?_); refine goesL_ (some 132) rfl rfl Try.func14 (by kernel_rfl) rfl #[.slice Ao95 t1235.length co95] rfl (by (try simp only [List.map_toArray, List.map_cons, List.map_nil]); first | done | rfl | (simp only [List.length_drop, List.length_take]; rfl)) ?_; (with_reducible refine (impl_IsScore.calls kj31 _ _ t1235 false _ ?side1 ?side2 A75.out).mono ?_); (case side1 => repeat (first | exact (Kd.R_reads' HO1239.out).2.2 | (with_reducible refine Kd.C_alloc ?_ _) | (with_reducible refine Kd.C_drewN ?_ _) | (with_reducible refine Kd.C_drew ?_))); (case side2 => exact (Kd.R_reads' HO1239.out).2.1); rintro e w98 ⟨rfl, hb⟩; refine ⟨_, rfl, ?_⟩; have n0_ := Aside0.mk (Kd.R_below (by (with_reducible repeat (first | apply Kd.R_alloc | apply Kd.R_drewN | apply Kd.R_drew)); exact HO1239.out) hb); have n1_ := Aside0.mk (below_step (by repeat (first | (with_reducible first | exact HB.out | apply below_alloc | apply pw_below_drewN | apply below_drew1) | exact HB.out)) hb); clear HO1239; clear HB; have HO1239 := n0_; have HB := n1_; clear n0_ n1_; (try clear hb); (try clear hb2); (try clear hk); (try clear hi)))
        go_ret
        exact ⟨by first | rfl | (simp [errW_none, errW_some] <;> rfl) | (simp [*, errW_none, errW_some] <;> rfl), by repeat (first | (with_reducible first | exact HB.out | apply below_alloc | apply pw_below_drewN | apply below_drew1) | exact HB.out)⟩

/-- THE ONE PURE STATEMENT of laws_FnMoves: yours. -/
def laws_FnMoves.Pure : Prop := ∀ (l0 : List Int), l0.length ≤ maxLen → l0.length * 1 ≤ 140737488351232 → (∀ x ∈ l0, (Lit.int .u8 x).wf = true) → ∃ k, laws_FnMoves.f k l0 = some true
theorem laws_FnMoves.walk (P : laws_FnMoves.Pure) (a0 : Option Addr) (len0 cap0 : Nat) (z0 : List Int) (w : World) (w0 : (a0 = none ∧ len0 = 0 ∧ cap0 = 0 ∧ z0 = []) ∨ ∃ x, a0 = some x ∧ len0 ≤ cap0 ∧ cap0 ≤ maxLen ∧ z0.length = cap0 ∧ (∀ i, i < z0.length → w.cell? (x.add i) = some (.int .u8 (z0.getD i 0))) ∧ ∀ n ∈ z0, (Lit.int .u8 n).wf = true) (y0 : len0 * 1 ≤ 140737488351232) :
  Calls Try.prog 6 #[.slice a0 len0 cap0] w fun e w' => e = .returned (.bool true) ∧ Below w.heap.size w w' := by
 obtain ⟨l0, rfl, hr0, hm0, hw0, hc0⟩ := ReadsInt.ofRowC w0
 obtain ⟨k, h⟩ := P l0 hm0 y0 hw0
 refine (laws_FnMoves.calls k _ _ l0 true w (Kd.C_of_reads (d := (0 : Int)) (h1 := fun _ => rfl) hr0) hc0 h).mono ?_
 rintro e w' ⟨rfl, hd⟩
 exact ⟨rfl, hd⟩

end Go.Proofs.Ytbhlmeghbfmgiaa.F

/- Arguments that are structs, or slices of structs, all of whose fields are ints or bools, read as Lean lists: what a row needs of its arguments. No condition. -/
namespace Go.Proofs.Ytbhlmeghbfmgiaa.Opened
open Go.ChangeShapes Go.WideShapes Go.Deep Go.RowKit Go.Joins Go.Proofs.YtbhlmeghbfmgiaaW.PrintWords
set_option linter.unusedVariables false

/-- An int of 64 bits. -/
def I64 (n : Int) : Prop := -9223372036854775808 ≤ n ∧ n ≤ 9223372036854775807

theorem i64_of {n : Int} (h : (Lit.int .i64 n).wf = true) : I64 n := bounds_i64 h

section
variable {H : Type} {enc : TypeId × Value → H} {P : Program} {w : World} {base : Nat} {spare : Nat → Bool} {held : Bool}

/-- The cells vs read as the fields fs say. -/
def Fits (enc : TypeId × Value → H) (P : Program) (w : World) (base : Nat) (spare : Nat → Bool) (held : Bool) (fs : Array Field) (vs : List Value) : Prop :=
  vs.length = fs.size ∧ ∀ (j : Nat) (f : Field) (v : Value), fs[j]? = some f → vs[j]? = some v → ∃ (n : Nat) (y : DataW H × List MemPlace), DataW.trod enc P w base spare held n f.type [v] = some y

/-- One field of a fitting row of cells, an int. -/
theorem Fits.int {fs : Array Field} {vs : List Value} (h : Fits enc P w base spare held fs vs) {j : Nat} {f : Field} (hf : fs[j]? = some f) (ht : P.underlying f.type = some (.int .i64)) : ∃ n, vs[j]? = some (.int .i64 n) ∧ I64 n := by
  have hj : j < vs.length := by rw [h.1]; exact (Array.getElem?_eq_some_iff.1 hf).1
  obtain ⟨m, y, hy⟩ := h.2 j f _ hf (List.getElem?_eq_getElem hj)
  obtain ⟨n, e, _, hw⟩ := DataW.trod_int ht hy
  simp only [List.cons.injEq, and_true] at e
  exact ⟨n, by rw [List.getElem?_eq_getElem hj, e], i64_of hw⟩

theorem Fits.bool {fs : Array Field} {vs : List Value} (h : Fits enc P w base spare held fs vs) {j : Nat} {f : Field} (hf : fs[j]? = some f) (ht : P.underlying f.type = some .bool) : ∃ b, vs[j]? = some (.bool b) := by
  have hj : j < vs.length := by rw [h.1]; exact (Array.getElem?_eq_some_iff.1 hf).1
  obtain ⟨m, y, hy⟩ := h.2 j f _ hf (List.getElem?_eq_getElem hj)
  obtain ⟨n, e, _⟩ := DataW.trod_bool ht hy
  simp only [List.cons.injEq, and_true] at e
  exact ⟨n, by rw [List.getElem?_eq_getElem hj, e]⟩

theorem list2 {α : Type} {l : List α} {a b : α} (hl : l.length = 2) (h0 : l[0]? = some a) (h1 : l[1]? = some b) : l = [a, b] := by
  match l, hl with
  | [x, y], _ => simp at h0 h1; rw [h0, h1]
theorem list3 {α : Type} {l : List α} {a b c : α} (hl : l.length = 3) (h0 : l[0]? = some a) (h1 : l[1]? = some b) (h2 : l[2]? = some c) : l = [a, b, c] := by
  match l, hl with
  | [x, y, z], _ => simp at h0 h1 h2; rw [h0, h1, h2]
theorem list4 {α : Type} {l : List α} {a b c d : α} (hl : l.length = 4) (h0 : l[0]? = some a) (h1 : l[1]? = some b) (h2 : l[2]? = some c) (h3 : l[3]? = some d) : l = [a, b, c, d] := by
  match l, hl with
  | [x, y, z, u], _ => simp at h0 h1 h2 h3; rw [h0, h1, h2, h3]

/-- For each place below n an element with what is asked of it: a list of n such elements. -/
theorem list_of {α : Type} (Q : Nat → α → Prop) : ∀ n : Nat, (∀ i, i < n → ∃ x, Q i x) → ∃ l : List α, l.length = n ∧ ∀ (j : Nat) (p : α), l[j]? = some p → Q j p
  | 0, _ => ⟨[], rfl, fun j p h => by simp at h⟩
  | n + 1, h => by
    obtain ⟨l, hl, hq⟩ := list_of Q n (fun i hi => h i (by omega))
    obtain ⟨x, hx⟩ := h n (by omega)
    refine ⟨l ++ [x], by simp [hl], fun j p hj => ?_⟩
    rcases Nat.lt_or_ge j n with hn | hn
    · rw [List.getElem?_append_left (by omega)] at hj
      exact hq j p hj
    · have hj' : j = n := by
        have := (List.getElem?_eq_some_iff.1 hj).1
        rw [List.length_append, List.length_singleton] at this
        omega
      subst hj'
      have : x = p := by
        rw [List.getElem?_append_right (by omega), hl] at hj
        simpa using hj
      rw [← this]
      exact hx

/-- An argument that is a slice of structs of one-cell fields: it reads as a list of the print's kind d. -/
theorem open_rows {α : Type} (d : Kd α) (Good : α → Prop) {t e : TypeId} {fs : Array Field} {a : Option Addr} {len cap : Nat} {dd : DataW H} {ps : List MemPlace}
    (ht : P.underlying t = some (.slice e)) (he : P.underlying e = some (.struct fs)) (hone : oneCellFields P fs = true) (hC : P.cellsOf e = fs.size) (hsz : d.sz = fs.size)
    (hk : ∀ vs, Fits enc P w base spare held fs vs → ∃ x, Good x ∧ d.K w x vs)
    (h : DataW.Trod enc P w base spare held t (.slice a len cap) dd ps) : ∃ l : List α, l.length = len ∧ len ≤ cap ∧ d.C w a len l ∧ ∀ x ∈ l, Good x := by
  obtain ⟨fuel, hf⟩ := h
  rcases open_slice ht hf with ⟨hcs, _⟩ | ⟨x, l, c, m, n, D, Pl, hcs, _, hl, hm, hmm, hx, hi⟩
  · simp [Value.cells] at hcs
    obtain ⟨rfl, rfl, rfl⟩ := hcs
    exact ⟨[], rfl, Nat.le_refl _, Kd.C_nil d w, by simp⟩
  · simp [Value.cells] at hcs
    obtain ⟨rfl, rfl, rfl⟩ := hcs
    have hlm : len ≤ m := by rw [hmm]; split <;> omega
    obtain ⟨l, hll, hq⟩ := list_of (fun i (y : α) => Good y ∧ ∃ c : List Value, c.length = d.sz ∧ d.K w y c ∧ ∀ j u, c[j]? = some u → w.cell? (x.add (i * d.sz + j)) = some u) len (by
      intro i hil
      obtain ⟨cs', hc, ht'⟩ := hi i (by omega)
      rw [hC] at hc
      obtain ⟨ys, n', hn', hy, hlen, hyl, hfld⟩ := DataW.trod_struct he ht'
      obtain ⟨_, hcl, hat⟩ := World.cells?_some hc
      have hlen' : cs'.length = fs.size := hcl
      obtain ⟨y, hg, hK⟩ := hk cs' ⟨hlen', fun j f v hj hv => by
        obtain ⟨ho, hkk⟩ := hone_of hone j f hj
        have hjl : j < fs.size := (Array.getElem?_eq_some_iff.1 hj).1
        have h1 := hfld j f hj
        rw [ho, hkk] at h1
        have hone' : (cs'.drop j).take 1 = [v] := by
          rw [List.drop_eq_getElem_cons (by omega)]
          have : cs'[j]'(by omega) = v := by
            rw [List.getElem?_eq_getElem (by omega)] at hv
            exact Option.some.inj hv
          rw [this]
          rfl
        rw [hone'] at h1
        exact ⟨_, _, h1.trans (List.getElem?_eq_getElem (by omega))⟩⟩
      refine ⟨y, hg, cs', by rw [hlen', hsz], hK, fun j u hu => ?_⟩
      have hjl : j < fs.size := by
        have := (List.getElem?_eq_some_iff.1 hu).1
        omega
      have hcell := hat j hjl
      rw [hsz, ← Go.Deep.add_add, hcell]
      exact hu)
    refine ⟨l, hll, hl, ⟨hll, ?_, fun _ => ⟨x, rfl, fun j p hj => (hq j p hj).2⟩⟩, fun y hy => ?_⟩
    · unfold maxLen at hm
      omega
    · obtain ⟨j, hj⟩ := List.getElem?_of_mem hy
      exact (hq j y hj).1

/-- An argument that is a slice of whole numbers. -/
theorem open_nums {k : IntKind} {t e : TypeId} {a : Option Addr} {len cap : Nat} {dd : DataW H} {ps : List MemPlace} (ht : P.underlying t = some (.slice e)) (he : P.underlying e = some (.int k)) (hC : P.cellsOf e = 1)
    (h : DataW.Trod enc P w base spare held t (.slice a len cap) dd ps) : ∃ l : List Int, l.length = len ∧ len ≤ cap ∧ (Kd.int k).C w a len l ∧ ∀ x ∈ l, (Lit.int k x).wf = true := by
  obtain ⟨fuel, hf⟩ := h
  rcases open_ints ht he hC hf with ⟨hcs, _⟩ | ⟨x, l, c, zs, hcs, _, hl, hm, hz, _, hcell, hwz⟩
  · simp [Value.cells] at hcs
    obtain ⟨rfl, rfl, rfl⟩ := hcs
    exact ⟨[], rfl, Nat.le_refl _, Kd.C_nil _ w, by simp⟩
  · simp [Value.cells] at hcs
    obtain ⟨rfl, rfl, rfl⟩ := hcs
    have hlz : len ≤ zs.length := by rw [hz]; split <;> omega
    refine ⟨zs.take len, by simp [hlz], hl, ⟨by simp [hlz], by unfold maxLen at hm; omega, fun _ => ⟨x, rfl, fun j p hj => ⟨[.int k p], rfl, rfl, fun i u hu => ?_⟩⟩⟩, fun y hy => hwz y (List.mem_of_mem_take hy)⟩
    have hjl := (List.getElem?_eq_some_iff.1 hj).1
    rw [List.length_take] at hjl
    have hi : i = 0 := by
      have := (List.getElem?_eq_some_iff.1 hu).1
      simp at this
      omega
    subst hi
    have hu' : Value.int k p = u := by simpa using hu
    rw [← hu', show (Kd.int k).sz = 1 from rfl, Nat.mul_one, Nat.add_zero, hcell j (by omega)]
    rw [List.getElem?_take_of_lt (by omega)] at hj
    simp [hj]
end
end Go.Proofs.Ytbhlmeghbfmgiaa.Opened

/- What the arguments of this seat's laws are read as, and the pure statement of each law. -/
namespace Go.Proofs.Ytbhlmeghbfmgiaa.F
open Go.ChangeShapes Go.WideShapes Go.Deep Go.RowKit Go.Joins Go.Proofs.YtbhlmeghbfmgiaaW.PrintWords Go.Proofs.Ytbhlmeghbfmgiaa.Opened
set_option linter.unusedVariables false

def Good26 (x : S26) : Prop := I64 x.f0 ∧ I64 x.f1 ∧ I64 x.f2 ∧ I64 x.f3
theorem hk26 {H : Type} {enc : TypeId × Value → H} {w : World} {base : Nat} {spare : Nat → Bool} {held : Bool} {fs : Array Field} (hfs : Try.prog.underlying 26 = some (.struct fs)) (vs : List Value) (h : Fits enc Try.prog w base spare held fs vs) : ∃ x : S26, Good26 x ∧ k26.K w x vs := by
  rw [Try.underlying26] at hfs
  obtain rfl := TypeDesc.struct.inj (Option.some.inj hfs)
  obtain ⟨n0, e0, g0⟩ := h.int (j := 0) rfl Try.underlying3
  obtain ⟨n1, e1, g1⟩ := h.int (j := 1) rfl Try.underlying3
  obtain ⟨n2, e2, g2⟩ := h.int (j := 2) rfl Try.underlying3
  obtain ⟨n3, e3, g3⟩ := h.int (j := 3) rfl Try.underlying3
  obtain rfl := list4 (by rw [h.1]; rfl) e0 e1 e2 e3
  exact ⟨⟨n0, n1, n2, n3⟩, ⟨g0, g1, g2, g3⟩, k26_mk w ⟨n0, n1, n2, n3⟩⟩
def Good151 (x : S151) : Prop := I64 x.f0 ∧ I64 x.f1
theorem hk151 {H : Type} {enc : TypeId × Value → H} {w : World} {base : Nat} {spare : Nat → Bool} {held : Bool} {fs : Array Field} (hfs : Try.prog.underlying 151 = some (.struct fs)) (vs : List Value) (h : Fits enc Try.prog w base spare held fs vs) : ∃ x : S151, Good151 x ∧ k151.K w x vs := by
  rw [Try.underlying151] at hfs
  obtain rfl := TypeDesc.struct.inj (Option.some.inj hfs)
  obtain ⟨n0, e0, g0⟩ := h.int (j := 0) rfl Try.underlying3
  obtain ⟨n1, e1, g1⟩ := h.int (j := 1) rfl Try.underlying3
  obtain rfl := list2 (by rw [h.1]; rfl) e0 e1
  exact ⟨⟨n0, n1⟩, ⟨g0, g1⟩, k151_mk w ⟨n0, n1⟩⟩
def Good49 (x : S49) : Prop := I64 x.f0 ∧ I64 x.f1
theorem hk49 {H : Type} {enc : TypeId × Value → H} {w : World} {base : Nat} {spare : Nat → Bool} {held : Bool} {fs : Array Field} (hfs : Try.prog.underlying 49 = some (.struct fs)) (vs : List Value) (h : Fits enc Try.prog w base spare held fs vs) : ∃ x : S49, Good49 x ∧ k49.K w x vs := by
  rw [Try.underlying49] at hfs
  obtain rfl := TypeDesc.struct.inj (Option.some.inj hfs)
  obtain ⟨n0, e0, g0⟩ := h.int (j := 0) rfl Try.underlying3
  obtain ⟨n1, e1, g1⟩ := h.int (j := 1) rfl Try.underlying3
  obtain rfl := list2 (by rw [h.1]; rfl) e0 e1
  exact ⟨⟨n0, n1⟩, ⟨g0, g1⟩, k49_mk w ⟨n0, n1⟩⟩
def Good63 (x : S63) : Prop := I64 x.f0 ∧ I64 x.f1 ∧ I64 x.f2
theorem hk63 {H : Type} {enc : TypeId × Value → H} {w : World} {base : Nat} {spare : Nat → Bool} {held : Bool} {fs : Array Field} (hfs : Try.prog.underlying 63 = some (.struct fs)) (vs : List Value) (h : Fits enc Try.prog w base spare held fs vs) : ∃ x : S63, Good63 x ∧ k63.K w x vs := by
  rw [Try.underlying63] at hfs
  obtain rfl := TypeDesc.struct.inj (Option.some.inj hfs)
  obtain ⟨n0, e0, g0⟩ := h.int (j := 0) rfl Try.underlying3
  obtain ⟨n1, e1, g1⟩ := h.int (j := 1) rfl Try.underlying3
  obtain ⟨n2, e2, g2⟩ := h.int (j := 2) rfl Try.underlying3
  obtain rfl := list3 (by rw [h.1]; rfl) e0 e1 e2
  exact ⟨⟨n0, n1, n2⟩, ⟨g0, g1, g2⟩, k63_mk w ⟨n0, n1, n2⟩⟩
def Good86 (x : S86) : Prop := I64 x.f0 ∧ I64 x.f1
theorem hk86 {H : Type} {enc : TypeId × Value → H} {w : World} {base : Nat} {spare : Nat → Bool} {held : Bool} {fs : Array Field} (hfs : Try.prog.underlying 86 = some (.struct fs)) (vs : List Value) (h : Fits enc Try.prog w base spare held fs vs) : ∃ x : S86, Good86 x ∧ k86.K w x vs := by
  rw [Try.underlying86] at hfs
  obtain rfl := TypeDesc.struct.inj (Option.some.inj hfs)
  obtain ⟨n0, e0, g0⟩ := h.int (j := 0) rfl Try.underlying3
  obtain ⟨n1, e1, g1⟩ := h.int (j := 1) rfl Try.underlying3
  obtain ⟨n2, e2⟩ := h.bool (j := 2) rfl Try.underlying4
  obtain rfl := list3 (by rw [h.1]; rfl) e0 e1 e2
  exact ⟨⟨n0, n1, n2⟩, ⟨g0, g1⟩, k86_mk w ⟨n0, n1, n2⟩⟩
def Good111 (x : S111) : Prop := I64 x.f0 ∧ I64 x.f1 ∧ I64 x.f2
theorem hk111 {H : Type} {enc : TypeId × Value → H} {w : World} {base : Nat} {spare : Nat → Bool} {held : Bool} {fs : Array Field} (hfs : Try.prog.underlying 111 = some (.struct fs)) (vs : List Value) (h : Fits enc Try.prog w base spare held fs vs) : ∃ x : S111, Good111 x ∧ k111.K w x vs := by
  rw [Try.underlying111] at hfs
  obtain rfl := TypeDesc.struct.inj (Option.some.inj hfs)
  obtain ⟨n0, e0, g0⟩ := h.int (j := 0) rfl Try.underlying3
  obtain ⟨n1, e1, g1⟩ := h.int (j := 1) rfl Try.underlying3
  obtain ⟨n2, e2, g2⟩ := h.int (j := 2) rfl Try.underlying3
  obtain rfl := list3 (by rw [h.1]; rfl) e0 e1 e2
  exact ⟨⟨n0, n1, n2⟩, ⟨g0, g1, g2⟩, k111_mk w ⟨n0, n1, n2⟩⟩
end Go.Proofs.Ytbhlmeghbfmgiaa.F

/- Small words on the printed functions: counting up, reading a list's element. -/
namespace Go.Proofs.Ytbhlmeghbfmgiaa.F
open Go.RowKit Go.Proofs.Ytbhlmeghbfmgiaa.Opened Go.Proofs.YtbhlmeghbfmgiaaW.PrintWords Go.Proofs.YtbhlmeghbfmgiaaW.PrintLast
set_option linter.unusedVariables false
set_option linter.unusedSimpArgs false

theorem w1 {n m : Nat} (h : n < m) (hm : m ≤ 9223372036854775807) : wrap64 ((n : Int) + 1) = ((n + 1 : Nat) : Int) := by unfold wrap64; omega
theorem w1i {i m : Int} (h0 : 0 ≤ i) (h : i < m) (hm : m ≤ 9223372036854775807) : wrap64 (i + 1) = i + 1 := by unfold wrap64; omega
theorem wid {x : Int} (h0 : -9223372036854775808 ≤ x) (h1 : x ≤ 9223372036854775807) : wrap64 x = x := by unfold wrap64; omega
theorem wI {x : Int} (h : I64 x) : wrap64 x = x := wid h.1 h.2
theorem bind_left {α β : Type} {a a' : Option α} (f : α → Option β) (h : a = a') : a.bind f = a'.bind f := by rw [h]
theorem take_next {α : Type} {l : List α} {n : Nat} (h : n < l.length) : l.take (n + 1) = l.take n ++ [l[n]] := by rw [List.take_succ_eq_append_getElem h]
theorem set_take {α : Type} (acc : List α) (n : Nat) (v : α) (h : n < acc.length) : (acc.set n v).take (n + 1) = acc.take n ++ [v] := by
  rw [List.take_succ_eq_append_getElem (by simpa using h), List.take_set, List.set_eq_of_length_le (by rw [List.length_take]; omega)]
  simp
theorem rd_nat (xs : List Int) (n : Nat) (h : n < xs.length) : rd xs (n : Int) = xs[n] := by simp [rd, h]
theorem rdT26 (xs : List S26) (n : Nat) (h : n < xs.length) : rd_T26 xs (n : Int) = xs[n] := by simp [rd_T26, h]
theorem rdT49 (xs : List S49) (n : Nat) (h : n < xs.length) : rd_T49 xs (n : Int) = xs[n] := by simp [rd_T49, h]
theorem rdT63 (xs : List S63) (n : Nat) (h : n < xs.length) : rd_T63 xs (n : Int) = xs[n] := by simp [rd_T63, h]
theorem rdT86 (xs : List S86) (n : Nat) (h : n < xs.length) : rd_T86 xs (n : Int) = xs[n] := by simp [rd_T86, h]
theorem rdT111 (xs : List S111) (n : Nat) (h : n < xs.length) : rd_T111 xs (n : Int) = xs[n] := by simp [rd_T111, h]
theorem rdT151 (xs : List S151) (n : Nat) (h : n < xs.length) : rd_T151 xs (n : Int) = xs[n] := by simp [rd_T151, h]

end Go.Proofs.Ytbhlmeghbfmgiaa.F

/- Ranges, minima, maxima, remainders: what the small functions on numbers come to. -/
namespace Go.Proofs.Ytbhlmeghbfmgiaa.F
open Go.RowKit Go.Proofs.Ytbhlmeghbfmgiaa.Opened Go.Proofs.YtbhlmeghbfmgiaaW.PrintWords Go.Proofs.YtbhlmeghbfmgiaaW.PrintLast Go.Proofs.YtbhlmeghbfmgiaaW.PrintMore
set_option linter.unusedVariables false
set_option linter.unusedSimpArgs false
theorem spec_l1In.ok (a b c : Int) : spec_l1In.f a b c = some (decide (b ≤ a ∧ a ≤ c)) := by
  unfold spec_l1In.f
  by_cases h : b ≤ a <;> simp [h]
theorem impl_InRange.ok (a b c : Int) : impl_InRange.f a b c = some (decide (b ≤ a ∧ a ≤ c)) := by
  unfold impl_InRange.f
  by_cases h : b ≤ a <;> simp [h]
theorem spec_Max.ok (a b : Int) : spec_Max.f a b = some (mx a b) := by
  unfold spec_Max.f mx
  by_cases h : a < b <;> simp [h]
theorem spec_Min.ok (a b : Int) : spec_Min.f a b = some (mn a b) := by
  unfold spec_Min.f mn
  by_cases h : b < a <;> simp [h]
end Go.Proofs.Ytbhlmeghbfmgiaa.F

/- Scores: what the tests of events and of scores come to. -/
namespace Go.Proofs.Ytbhlmeghbfmgiaa.F
open Go.RowKit Go.Proofs.Ytbhlmeghbfmgiaa.Opened Go.Proofs.YtbhlmeghbfmgiaaW.PrintWords Go.Proofs.YtbhlmeghbfmgiaaW.PrintLast Go.Proofs.YtbhlmeghbfmgiaaW.PrintMore
set_option linter.unusedVariables false
set_option linter.unusedSimpArgs false

abbrev Evt := S26
/-- An event whose numbers are in range. -/
def okE (e : Evt) : Prop := (0 ≤ e.f0 ∧ e.f0 ≤ 2000) ∧ (1 ≤ e.f1 ∧ e.f1 ≤ 96) ∧ (21 ≤ e.f2 ∧ e.f2 ≤ 108) ∧ (1 ≤ e.f3 ∧ e.f3 ≤ 4)
instance (e : Evt) : Decidable (okE e) := by unfold okE; infer_instance
/-- Events in order: by time, then voice, then pitch. -/
def before (a b : Evt) : Prop := a.f0 < b.f0 ∨ (a.f0 = b.f0 ∧ (a.f3 < b.f3 ∨ (a.f3 = b.f3 ∧ a.f2 < b.f2)))
instance (a b : Evt) : Decidable (before a b) := by unfold before; infer_instance
theorem before_trans {a b c : Evt} (h : before a b) (h' : before b c) : before a c := by unfold before at *; omega
theorem before_irrefl (a : Evt) : ¬ before a a := by unfold before; omega
theorem before_asymm {a b : Evt} (h : before a b) : ¬ before b a := by unfold before at *; omega
theorem spec_l8Ok.ok (e : Evt) : spec_l8Ok.f e.f0 e.f1 e.f2 e.f3 = some (decide (okE e)) := by
  unfold spec_l8Ok.f okE
  simp only [spec_l1In.ok, Option.bind_some]
  by_cases h1 : 0 ≤ e.f0 ∧ e.f0 ≤ 2000 <;> by_cases h2 : 1 ≤ e.f1 ∧ e.f1 ≤ 96 <;> by_cases h3 : 21 ≤ e.f2 ∧ e.f2 ≤ 108 <;> by_cases h4 : 1 ≤ e.f3 ∧ e.f3 ≤ 4 <;> simp [h1, h2, h3, h4]
theorem spec_l8Before.ok (a b : Evt) : spec_l8Before.f a.f0 a.f1 a.f2 a.f3 b.f0 b.f1 b.f2 b.f3 = some (decide (before a b)) := by
  unfold spec_l8Before.f before
  by_cases h1 : a.f0 = b.f0
  · by_cases h2 : a.f3 = b.f3 <;> simp [h1, h2]
  · simp [h1]
def cmpI (a b : Int) : Int := if a < b then -1 else if b < a then 1 else 0
theorem cmp_Compare_int.ok (a b : Int) : cmp_Compare_int.f a b = some (cmpI a b) := by
  unfold cmp_Compare_int.f cmp_isNaN_int.f cmpI
  by_cases h1 : a < b
  · simp [h1]
  · by_cases h2 : b < a <;> simp [h1, h2]
theorem cmp_Or_int.ok3 (x y z : Int) (k : Nat) (hk : 4 ≤ k) : cmp_Or_int.f k [x, y, z] = some (if x = 0 then (if y = 0 then z else y) else x) := by
  obtain ⟨k, rfl⟩ : ∃ m, k = m + 4 := ⟨k - 4, by omega⟩
  have e1 : wrap64 (1 : Int) = 1 := by unfold wrap64; omega
  have e2 : wrap64 (2 : Int) = 2 := by unfold wrap64; omega
  have e3 : wrap64 (3 : Int) = 3 := by unfold wrap64; omega
  by_cases h1 : x = 0
  · by_cases h2 : y = 0
    · by_cases h3 : z = 0 <;> simp [cmp_Or_int.f, cmp_Or_int.l0, rd, h1, h2, h3, e1, e2, e3]
    · simp [cmp_Or_int.f, cmp_Or_int.l0, rd, h1, h2, e1, e2, e3]
  · simp [cmp_Or_int.f, cmp_Or_int.l0, rd, h1, e1, e2, e3]
/-- How two events compare. -/
def ordE (a b : Evt) : Int := if cmpI a.f0 b.f0 = 0 then (if cmpI a.f3 b.f3 = 0 then cmpI a.f2 b.f2 else cmpI a.f3 b.f3) else cmpI a.f0 b.f0
theorem impl_eventOrder.ok (a b : Evt) (k : Nat) (hk : 4 ≤ k) : impl_eventOrder.f k a.f0 a.f1 a.f2 a.f3 b.f0 b.f1 b.f2 b.f3 = some (ordE a b) := by
  unfold impl_eventOrder.f
  simp only [cmp_Compare_int.ok, Option.bind_some, cmp_Or_int.ok3 _ _ _ k hk]
  rfl
theorem ordE_lt (a b : Evt) : ordE a b < 0 ↔ before a b := by
  unfold ordE cmpI before
  constructor
  · intro h; repeat' split at h
    all_goals omega
  · intro h; repeat' split
    all_goals omega
theorem ordE_zero (a b : Evt) : ordE a b = 0 ↔ a.f0 = b.f0 ∧ a.f3 = b.f3 ∧ a.f2 = b.f2 := by
  unfold ordE cmpI
  constructor
  · intro h; repeat' split at h
    all_goals omega
  · intro h; repeat' split
    all_goals omega

/-- The events behind p stand in order and in range. -/
def scB : Option Evt → List Evt → Bool
  | _, [] => true
  | none, e :: l => decide (okE e) && scB (some e) l
  | some q, e :: l => decide (okE e) && (decide (before q e) && scB (some e) l)
/-- A valid score. -/
def isScoreB (l : List Evt) : Bool := scB none l && decide (l.length ≤ 40)
theorem scB_some (q : Evt) (l : List Evt) : scB (some q) l = true ↔ (∀ x ∈ l, okE x) ∧ l.Pairwise before ∧ ∀ x ∈ l, before q x := by
  induction l generalizing q with
  | nil => simp [scB]
  | cons e l ih =>
    simp only [scB, Bool.and_eq_true, decide_eq_true_eq, ih e, List.mem_cons, forall_eq_or_imp, List.pairwise_cons]
    constructor
    · rintro ⟨h1, h2, h3, h4, h5⟩
      exact ⟨⟨h1, h3⟩, ⟨h5, h4⟩, h2, fun x hx => before_trans h2 (h5 x hx)⟩
    · rintro ⟨⟨h1, h3⟩, ⟨h5, h4⟩, h2, h6⟩
      exact ⟨h1, h2, h3, h4, h5⟩
theorem scB_none (l : List Evt) : scB none l = true ↔ (∀ x ∈ l, okE x) ∧ l.Pairwise before := by
  cases l with
  | nil => simp [scB]
  | cons e l =>
    simp only [scB, Bool.and_eq_true, decide_eq_true_eq, scB_some, List.mem_cons, forall_eq_or_imp, List.pairwise_cons]
    constructor
    · rintro ⟨h1, h3, h4, h5⟩
      exact ⟨⟨h1, h3⟩, h5, h4⟩
    · rintro ⟨⟨h1, h3⟩, h5, h4⟩
      exact ⟨h1, h3, h4, h5⟩
theorem isScoreB_iff (l : List Evt) : isScoreB l = true ↔ (∀ x ∈ l, okE x) ∧ l.Pairwise before ∧ l.length ≤ 40 := by
  unfold isScoreB
  rw [Bool.and_eq_true, scB_none, decide_eq_true_eq, and_assoc]
def prevAt (l : List Evt) (n : Nat) : Option Evt := if n = 0 then none else l[n - 1]?
theorem prevAt_next (l : List Evt) (n : Nat) (h : n < l.length) : prevAt l (n + 1) = some l[n] := by simp [prevAt, h]
theorem prevAt_pos (l : List Evt) (n : Nat) (h0 : n ≠ 0) (h : n - 1 < l.length) : prevAt l n = some l[n - 1] := by simp [prevAt, h0, h]
theorem spec_IsScore.loop (l : List Evt) (hm : l.length ≤ 9223372036854775807) : ∀ (d k n : Nat), l.length - n ≤ d → d < k → spec_IsScore.l0 k l (n : Int) = some (scB (prevAt l n) (l.drop n) && decide (l.length ≤ 40)) := by
  intro d
  induction d with
  | zero =>
    intro k n hd hk
    obtain ⟨k, rfl⟩ : ∃ m, k = m + 1 := ⟨k - 1, by omega⟩
    simp only [spec_IsScore.l0]
    rw [if_neg (by omega), List.drop_of_length_le (by omega)]
    have e : ((l.length : Int) ≤ 40) ↔ l.length ≤ 40 := by omega
    simp [scB, e]
  | succ d ih =>
    intro k n hd hk
    obtain ⟨k, rfl⟩ : ∃ m, k = m + 1 := ⟨k - 1, by omega⟩
    by_cases h : n < l.length
    · simp only [spec_IsScore.l0]
      rw [if_pos (by omega), if_pos (by omega), rdT26 l n h, spec_l8Ok.ok, w1 h hm, List.drop_eq_getElem_cons h]
      simp only [Option.bind_some]
      have ih' := ih k (n + 1) (by omega) (by omega)
      rw [prevAt_next l n h] at ih'
      by_cases c1 : okE l[n]
      · by_cases c2 : n = 0
        · subst c2
          rw [if_pos (by simpa using c1), if_neg (by omega), ih']
          simp [prevAt, scB, c1]
        · have e : wrap64 ((n : Int) - 1) = ((n - 1 : Nat) : Int) := by unfold wrap64; omega
          rw [if_pos (by simpa using c1), if_pos (by omega), e, if_pos (by omega), if_pos (by omega), rdT26 l (n - 1) (by omega), spec_l8Before.ok]
          simp only [Option.bind_some]
          rw [ih', prevAt_pos l n c2 (by omega)]
          by_cases c3 : before l[n - 1] l[n]
          · simp [scB, c1, c3]
          · simp [scB, c3]
      · rw [if_neg (by simpa using c1)]
        cases prevAt l n <;> simp [scB, c1]
    · simp only [spec_IsScore.l0]
      rw [if_neg (by omega), List.drop_of_length_le (by omega)]
      have e : ((l.length : Int) ≤ 40) ↔ l.length ≤ 40 := by omega
      simp [scB, e]
theorem spec_IsScore.ok (l : List Evt) (hm : l.length ≤ 9223372036854775807) (k : Nat) (hk : l.length < k) : spec_IsScore.f k l = some (isScoreB l) := by
  unfold spec_IsScore.f
  exact spec_IsScore.loop l hm l.length k 0 (by omega) hk
theorem impl_IsScore.loop (l : List Evt) (hm : l.length ≤ 9223372036854775807) : ∀ (d k n : Nat), l.length - n ≤ d → d + 4 < k → impl_IsScore.l0 k l l l.length (n : Int) = some (scB (prevAt l n) (l.drop n) && decide (l.length ≤ 40)) := by
  intro d
  induction d with
  | zero =>
    intro k n hd hk
    obtain ⟨k, rfl⟩ : ∃ m, k = m + 1 := ⟨k - 1, by omega⟩
    simp only [impl_IsScore.l0]
    rw [if_neg (by omega), List.drop_of_length_le (by omega)]
    have e : ((l.length : Int) ≤ 40) ↔ l.length ≤ 40 := by omega
    simp [scB, e]
  | succ d ih =>
    intro k n hd hk
    obtain ⟨k, rfl⟩ : ∃ m, k = m + 1 := ⟨k - 1, by omega⟩
    by_cases h : n < l.length
    · simp only [impl_IsScore.l0, impl_InRange.ok]
      rw [if_pos (by omega), if_pos (by omega), if_pos (by omega), rdT26 l n h, w1 h hm, List.drop_eq_getElem_cons h]
      simp only [Option.bind_some]
      have ih' := ih k (n + 1) (by omega) (by omega)
      rw [prevAt_next l n h] at ih'
      by_cases c1 : okE l[n]
      · obtain ⟨o1, o2, o3, o4⟩ := id c1
        rw [if_pos (by simpa using o1), if_pos (by simpa using o2), if_pos (by simpa using o3), if_pos (by simpa using o4)]
        by_cases c2 : n = 0
        · subst c2
          rw [if_neg (by omega), ih']
          simp [prevAt, scB, c1]
        · have e : wrap64 ((n : Int) - 1) = ((n - 1 : Nat) : Int) := by unfold wrap64; omega
          rw [if_pos (by omega), e, if_pos (by omega), if_pos (by omega), rdT26 l (n - 1) (by omega), impl_eventOrder.ok _ _ k (by omega)]
          simp only [Option.bind_some]
          rw [ih', prevAt_pos l n c2 (by omega)]
          by_cases c3 : before l[n - 1] l[n]
          · have := (ordE_lt l[n - 1] l[n]).2 c3
            rw [if_neg (by omega)]
            simp [scB, c1, c3]
          · have := mt (ordE_lt l[n - 1] l[n]).1 c3
            rw [if_pos (by omega)]
            simp [scB, c3]
      · have c1' := c1
        unfold okE at c1
        have R : scB (prevAt l n) (l[n] :: l.drop (n + 1)) = false := by cases prevAt l n <;> simp [scB, c1']
        rw [R, Bool.false_and]
        by_cases h1 : 0 ≤ l[n].f0 ∧ l[n].f0 ≤ 2000
        · by_cases h2 : 1 ≤ l[n].f1 ∧ l[n].f1 ≤ 96
          · by_cases h3 : 21 ≤ l[n].f2 ∧ l[n].f2 ≤ 108
            · by_cases h4 : 1 ≤ l[n].f3 ∧ l[n].f3 ≤ 4
              · exact absurd ⟨h1, h2, h3, h4⟩ c1
              · rw [if_pos (by simpa using h1), if_pos (by simpa using h2), if_pos (by simpa using h3), if_neg (by simpa using h4)]
            · rw [if_pos (by simpa using h1), if_pos (by simpa using h2), if_neg (by simpa using h3)]
          · rw [if_pos (by simpa using h1), if_neg (by simpa using h2)]
        · rw [if_neg (by simpa using h1)]
    · simp only [impl_IsScore.l0]
      rw [if_neg (by omega), List.drop_of_length_le (by omega)]
      have e : ((l.length : Int) ≤ 40) ↔ l.length ≤ 40 := by omega
      simp [scB, e]
theorem impl_IsScore.ok (l : List Evt) (hm : l.length ≤ 9223372036854775807) (k : Nat) (hk : l.length + 4 < k) : impl_IsScore.f k l = some (isScoreB l) := by
  unfold impl_IsScore.f
  exact impl_IsScore.loop l hm l.length k 0 (by omega) hk
end Go.Proofs.Ytbhlmeghbfmgiaa.F

/- Lowest and highest pitch, ranges, scores that are moved. -/
namespace Go.Proofs.Ytbhlmeghbfmgiaa.F
open Go.RowKit Go.Proofs.Ytbhlmeghbfmgiaa.Opened Go.Proofs.YtbhlmeghbfmgiaaW.PrintWords Go.Proofs.YtbhlmeghbfmgiaaW.PrintLast Go.Proofs.YtbhlmeghbfmgiaaW.PrintMore
set_option linter.unusedVariables false
set_option linter.unusedSimpArgs false
def lhStep (p : Int × Int) (e : Evt) : Int × Int := (mn p.1 e.f2, mx p.2 e.f2)
/-- The lowest and the highest pitch. -/
def lowHigh : List Evt → Int × Int
  | [] => (0, 0)
  | e :: l => if isScoreB (e :: l) = true then l.foldl lhStep (e.f2, e.f2) else (0, 0)
theorem spec_LowHigh.loop (l : List Evt) (hm : l.length ≤ 9223372036854775807) : ∀ (d k : Nat) (a b : Int) (n : Nat), l.length - n ≤ d → d < k → spec_LowHigh.l0 k l a b (n : Int) = some ((l.drop n).foldl lhStep (a, b)) := by
  intro d
  induction d with
  | zero =>
    intro k a b n hd hk
    obtain ⟨k, rfl⟩ : ∃ m, k = m + 1 := ⟨k - 1, by omega⟩
    simp only [spec_LowHigh.l0]
    rw [if_neg (by omega), List.drop_of_length_le (by omega)]
    rfl
  | succ d ih =>
    intro k a b n hd hk
    obtain ⟨k, rfl⟩ : ∃ m, k = m + 1 := ⟨k - 1, by omega⟩
    by_cases h : n < l.length
    · simp only [spec_LowHigh.l0]
      rw [if_pos (by omega), if_pos (by omega), rdT26 l n h, spec_Min.ok, spec_Max.ok, w1 h hm]
      simp only [Option.bind_some]
      rw [ih k _ _ (n + 1) (by omega) (by omega), List.drop_eq_getElem_cons h, List.foldl_cons]
      rfl
    · simp only [spec_LowHigh.l0]
      rw [if_neg (by omega), List.drop_of_length_le (by omega)]
      rfl
theorem spec_LowHigh.ok (l : List Evt) (hm : l.length ≤ 1048576) (k : Nat) (hk : 2 * l.length + 20 < k) : spec_LowHigh.f k l = some (lowHigh l) := by
  obtain ⟨k, rfl⟩ : ∃ m, k = m + 1 := ⟨k - 1, by omega⟩
  unfold spec_LowHigh.f
  rw [spec_IsScore.ok l (by omega) _ (by omega)]
  simp only [Option.bind_some, spec_LowHigh.j0]
  cases l with
  | nil => simp [lowHigh]
  | cons e l =>
    by_cases hs : isScoreB (e :: l) = true
    · have h0 : rd_T26 (e :: l) 0 = e := rfl
      have hl := spec_LowHigh.loop (e :: l) (by omega) (e :: l).length k e.f2 e.f2 1 (by simp) (by omega)
      have hn : ¬ ((((e :: l).length : Int) == 0) = true) := by simp; omega
      rw [if_pos hs, if_neg hn, if_pos (show (0 : Int) < ((e :: l).length : Int) by simp only [List.length_cons]; omega), h0]
      simp only [lowHigh, if_pos hs]
      exact hl
    · rw [if_neg hs]
      simp only [lowHigh, if_neg hs, if_true]
theorem impl_LowHigh.loop (l : List Evt) (hm : l.length ≤ 9223372036854775807) : ∀ (d k : Nat) (a b : Int) (n : Nat), l.length - n ≤ d → d < k → impl_LowHigh.l0 k a b l l.length (n : Int) = some ((l.drop n).foldl lhStep (a, b)) := by
  intro d
  induction d with
  | zero =>
    intro k a b n hd hk
    obtain ⟨k, rfl⟩ : ∃ m, k = m + 1 := ⟨k - 1, by omega⟩
    simp only [impl_LowHigh.l0]
    rw [if_neg (by omega), List.drop_of_length_le (by omega)]
    rfl
  | succ d ih =>
    intro k a b n hd hk
    obtain ⟨k, rfl⟩ : ∃ m, k = m + 1 := ⟨k - 1, by omega⟩
    by_cases h : n < l.length
    · simp only [impl_LowHigh.l0]
      rw [if_pos (by omega), if_pos (by omega), if_pos (by omega), rdT26 l n h, w1 h hm]
      rw [ih k _ _ (n + 1) (by omega) (by omega), List.drop_eq_getElem_cons h, List.foldl_cons]
      rfl
    · simp only [impl_LowHigh.l0]
      rw [if_neg (by omega), List.drop_of_length_le (by omega)]
      rfl
theorem impl_LowHigh.ok (l : List Evt) (hm : l.length ≤ 1048576) (k : Nat) (hk : 2 * l.length + 20 < k) : impl_LowHigh.f k l = some (lowHigh l) := by
  obtain ⟨k, rfl⟩ : ∃ m, k = m + 1 := ⟨k - 1, by omega⟩
  unfold impl_LowHigh.f
  rw [impl_IsScore.ok l (by omega) _ (by omega)]
  simp only [Option.bind_some, impl_LowHigh.j0]
  cases l with
  | nil => simp [lowHigh]
  | cons e l =>
    by_cases hs : isScoreB (e :: l) = true
    · have h0 : rd_T26 (e :: l) 0 = e := rfl
      have hl := impl_LowHigh.loop (e :: l) (by omega) (e :: l).length k e.f2 e.f2 0 (by simp) (by omega)
      have hn : ¬ ((((e :: l).length : Int) == 0) = true) := by simp; omega
      have h1 : lhStep (e.f2, e.f2) e = (e.f2, e.f2) := by unfold lhStep mn mx; simp
      rw [if_pos hs, if_neg hn, if_pos (show (0 : Int) < ((e :: l).length : Int) by simp only [List.length_cons]; omega), h0]
      simp only [lowHigh, if_pos hs]
      rw [List.drop_zero, List.foldl_cons, h1] at hl
      exact hl
    · rw [if_neg hs]
      simp only [lowHigh, if_neg hs, if_true]
/-- All pitches in range, and a valid score. -/
def fitsB (l : List Evt) (lo hi : Int) : Bool := l.all (fun e => decide (lo ≤ e.f2 ∧ e.f2 ≤ hi)) && isScoreB l
theorem impl_FitsRange.loop (l : List Evt) (lo hi : Int) (hm : l.length ≤ 9223372036854775807) : ∀ (d k n : Nat), l.length - n ≤ d → d + l.length + 5 < k → impl_FitsRange.l0 k l lo hi l l.length (n : Int) = some ((l.drop n).all (fun e => decide (lo ≤ e.f2 ∧ e.f2 ≤ hi)) && isScoreB l) := by
  intro d
  induction d with
  | zero =>
    intro k n hd hk
    obtain ⟨k, rfl⟩ : ∃ m, k = m + 1 := ⟨k - 1, by omega⟩
    simp only [impl_FitsRange.l0]
    rw [if_neg (by omega), List.drop_of_length_le (by omega), impl_IsScore.ok l hm k (by omega)]
    simp
  | succ d ih =>
    intro k n hd hk
    obtain ⟨k, rfl⟩ : ∃ m, k = m + 1 := ⟨k - 1, by omega⟩
    by_cases h : n < l.length
    · simp only [impl_FitsRange.l0, impl_InRange.ok]
      rw [if_pos (by omega), if_pos (by omega), if_pos (by omega), rdT26 l n h, w1 h hm, ih k (n + 1) (by omega) (by omega), List.drop_eq_getElem_cons h, List.all_cons]
      simp only [Option.bind_some]
      by_cases c : lo ≤ l[n].f2 ∧ l[n].f2 ≤ hi
      · rw [if_pos (by simpa using c)]
        simp [c]
      · rw [if_neg (by simpa using c)]
        have : decide (lo ≤ l[n].f2 ∧ l[n].f2 ≤ hi) = false := by simpa using c
        rw [this]
        simp
    · simp only [impl_FitsRange.l0]
      rw [if_neg (by omega), List.drop_of_length_le (by omega), impl_IsScore.ok l hm k (by omega)]
      simp
theorem impl_FitsRange.ok (l : List Evt) (lo hi : Int) (hm : l.length ≤ 1048576) (k : Nat) (hk : 2 * l.length + 20 < k) : impl_FitsRange.f k l lo hi = some (fitsB l lo hi) := by
  unfold impl_FitsRange.f
  exact impl_FitsRange.loop l lo hi (by omega) l.length k 0 (by omega) (by omega)
/-- An event, moved. -/
def shE (h : Int) (e : Evt) : Evt := ⟨e.f0, e.f1, wrap64 (e.f2 + h), e.f3⟩
/-- A score, moved by half tones. -/
def moveSc (l : List Evt) (h : Int) : List Evt × Bool := if isScoreB l = true ∧ ((-100 : Int) ≤ h ∧ h ≤ 100) then (if isScoreB (l.map (shE h)) = true then (l.map (shE h), true) else (l, false)) else (l, false)
theorem moveSc_length (l : List Evt) (h : Int) : (moveSc l h).1.length = l.length := by
  unfold moveSc
  repeat' split
  all_goals simp
theorem impl_Event_83.ok (l : List Evt) (hm : l.length ≤ 1048576) : impl_Event_83.f l = some l := by
  unfold impl_Event_83.f
  simp only [Option.bind_some, List.length_nil, List.nil_append]
  rw [if_pos (by omega)]
theorem shStep (h : Int) (acc : List Evt) (n : Nat) (hn : n < acc.length) : (acc.set n (shE h acc[n])).take (n + 1) ++ ((acc.set n (shE h acc[n])).drop (n + 1)).map (shE h) = acc.take n ++ (acc.drop n).map (shE h) := by
  rw [set_take _ _ _ hn, List.drop_set_of_lt (by omega), List.drop_eq_getElem_cons hn]
  simp only [List.map_cons, List.append_assoc, List.singleton_append]
theorem impl_MoveScore.loop (l : List Evt) (h : Int) (hm : l.length ≤ 1048576) : ∀ (d k : Nat) (acc : List Evt) (n : Nat), acc.length ≤ 1048576 → acc.length - n ≤ d → d + acc.length + 5 < k → impl_MoveScore.l0 k l h acc acc.length (n : Int) = some (if isScoreB (acc.take n ++ (acc.drop n).map (shE h)) = true then (acc.take n ++ (acc.drop n).map (shE h), true) else (l, false)) := by
  intro d
  induction d with
  | zero =>
    intro k acc n ha hd hk
    obtain ⟨k, rfl⟩ : ∃ m, k = m + 1 := ⟨k - 1, by omega⟩
    simp only [impl_MoveScore.l0]
    rw [if_neg (by omega), List.drop_of_length_le (by omega), List.take_of_length_le (by omega), impl_IsScore.ok acc (by omega) k (by omega), impl_Event_83.ok l hm]
    simp only [Option.bind_some, List.map_nil, List.append_nil]
    split <;> rfl
  | succ d ih =>
    intro k acc n ha hd hk
    obtain ⟨k, rfl⟩ : ∃ m, k = m + 1 := ⟨k - 1, by omega⟩
    by_cases hn : n < acc.length
    · simp only [impl_MoveScore.l0]
      rw [if_pos (by omega), if_pos (by omega), if_pos (by omega), rdT26 acc n hn, w1 hn (by omega), Int.toNat_natCast]
      have e : (⟨acc[n].f0, acc[n].f1, wrap64 (acc[n].f2 + h), acc[n].f3⟩ : Evt) = shE h acc[n] := rfl
      rw [e]
      have hl : (acc.set n (shE h acc[n])).length = acc.length := by simp
      have := ih k (acc.set n (shE h acc[n])) (n + 1) (by omega) (by omega) (by omega)
      rw [hl, shStep h acc n hn] at this
      exact this
    · simp only [impl_MoveScore.l0]
      rw [if_neg (by omega), List.drop_of_length_le (by omega), List.take_of_length_le (by omega), impl_IsScore.ok acc (by omega) k (by omega), impl_Event_83.ok l hm]
      simp only [Option.bind_some, List.map_nil, List.append_nil]
      split <;> rfl
theorem impl_MoveScore.ok (l : List Evt) (h : Int) (hm : l.length ≤ 1048576) (k : Nat) (hk : 2 * l.length + 20 < k) : impl_MoveScore.f k l h = some (moveSc l h) := by
  obtain ⟨k, rfl⟩ : ∃ m, k = m + 1 := ⟨k - 1, by omega⟩
  unfold impl_MoveScore.f moveSc
  rw [impl_Event_83.ok l hm]
  simp only [Option.bind_some]
  rw [impl_IsScore.ok l (by omega) _ (by omega), impl_InRange.ok]
  simp only [Option.bind_some, impl_MoveScore.j0]
  have hl := impl_MoveScore.loop l h hm l.length k l 0 hm (by omega) (by omega)
  simp only [List.take_zero, List.drop_zero, List.nil_append] at hl
  by_cases hs : isScoreB l = true
  · by_cases hr : (-100 : Int) ≤ h ∧ h ≤ 100
    · simp only [hs, hr, and_self, decide_true, Bool.not_true, Bool.false_eq_true, if_true, if_false]
      exact hl
    · simp [hs, hr]
  · simp [hs]
theorem spec_MoveScore.loop (l : List Evt) (h : Int) (hm : l.length ≤ 1048576) : ∀ (d k : Nat) (acc : List Evt) (n : Nat), acc.length ≤ 1048576 → acc.length - n ≤ d → d + acc.length + 5 < k → spec_MoveScore.l0 k l h acc (n : Int) = some (if isScoreB (acc.take n ++ (acc.drop n).map (shE h)) = true then (acc.take n ++ (acc.drop n).map (shE h), true) else (l, false)) := by
  intro d
  induction d with
  | zero =>
    intro k acc n ha hd hk
    obtain ⟨k, rfl⟩ : ∃ m, k = m + 1 := ⟨k - 1, by omega⟩
    simp only [spec_MoveScore.l0]
    rw [if_neg (by omega), List.drop_of_length_le (by omega), List.take_of_length_le (by omega), spec_IsScore.ok acc (by omega) k (by omega)]
    simp only [Option.bind_some, List.map_nil, List.append_nil, List.length_nil, List.nil_append]
    rw [if_pos (show 0 + l.length < 4398046511104 by omega)]
    split <;> rfl
  | succ d ih =>
    intro k acc n ha hd hk
    obtain ⟨k, rfl⟩ : ∃ m, k = m + 1 := ⟨k - 1, by omega⟩
    by_cases hn : n < acc.length
    · simp only [spec_MoveScore.l0]
      rw [if_pos (by omega), if_pos (by omega), rdT26 acc n hn, w1 hn (by omega), Int.toNat_natCast]
      have e : (⟨acc[n].f0, acc[n].f1, wrap64 (acc[n].f2 + h), acc[n].f3⟩ : Evt) = shE h acc[n] := rfl
      rw [e]
      have hl : (acc.set n (shE h acc[n])).length = acc.length := by simp
      have := ih k (acc.set n (shE h acc[n])) (n + 1) (by omega) (by omega) (by omega)
      rw [shStep h acc n hn] at this
      exact this
    · simp only [spec_MoveScore.l0]
      rw [if_neg (by omega), List.drop_of_length_le (by omega), List.take_of_length_le (by omega), spec_IsScore.ok acc (by omega) k (by omega)]
      simp only [Option.bind_some, List.map_nil, List.append_nil, List.length_nil, List.nil_append]
      rw [if_pos (show 0 + l.length < 4398046511104 by omega)]
      split <;> rfl
theorem spec_MoveScore.ok (l : List Evt) (h : Int) (hm : l.length ≤ 1048576) (k : Nat) (hk : 2 * l.length + 20 < k) : spec_MoveScore.f k l h = some (moveSc l h) := by
  obtain ⟨k, rfl⟩ : ∃ m, k = m + 1 := ⟨k - 1, by omega⟩
  unfold spec_MoveScore.f moveSc
  simp only [Option.bind_some, List.length_nil, List.nil_append]
  rw [if_pos (show 0 + l.length < 4398046511104 by omega), spec_IsScore.ok l (by omega) _ (by omega), spec_l1In.ok]
  simp only [Option.bind_some, spec_MoveScore.j0]
  have hl := spec_MoveScore.loop l h hm l.length k l 0 hm (by omega) (by omega)
  simp only [List.take_zero, List.drop_zero, List.nil_append] at hl
  by_cases hs : isScoreB l = true
  · by_cases hr : (-100 : Int) ≤ h ∧ h ≤ 100
    · simp only [hs, hr, and_self, decide_true, Bool.not_true, Bool.false_eq_true, if_true, if_false]
      exact hl
    · simp [hs, hr]
  · simp [hs]
def writtenSc (l : List Evt) (s : Int) : List Evt × Bool := if (-36 : Int) ≤ s ∧ s ≤ 36 then moveSc l (wrap64 (-s)) else (l, false)
theorem writtenSc_length (l : List Evt) (h : Int) : (writtenSc l h).1.length = l.length := by
  unfold writtenSc
  split
  · exact moveSc_length _ _
  · rfl
theorem impl_WrittenFor.ok (l : List Evt) (s : Int) (hm : l.length ≤ 1048576) (k : Nat) (hk : 2 * l.length + 20 < k) : impl_WrittenFor.f k l s = some (writtenSc l s) := by
  unfold impl_WrittenFor.f writtenSc
  rw [impl_InRange.ok, impl_Event_83.ok l hm, impl_MoveScore.ok l _ hm k hk]
  simp only [Option.bind_some]
  by_cases hr : (-36 : Int) ≤ s ∧ s ≤ 36 <;> simp [hr]
theorem spec_WrittenFor.ok (l : List Evt) (s : Int) (hm : l.length ≤ 1048576) (k : Nat) (hk : 2 * l.length + 20 < k) : spec_WrittenFor.f k l s = some (writtenSc l s) := by
  unfold spec_WrittenFor.f writtenSc
  rw [spec_l1In.ok, spec_MoveScore.ok l _ hm k hk]
  simp only [Option.bind_some, List.length_nil, List.nil_append]
  rw [if_pos (show 0 + l.length < 4398046511104 by omega)]
  by_cases hr : (-36 : Int) ≤ s ∧ s ≤ 36 <;> simp [hr]
def soundingSc (l : List Evt) (s : Int) : List Evt × Bool := if (-36 : Int) ≤ s ∧ s ≤ 36 then moveSc l s else (l, false)
theorem soundingSc_length (l : List Evt) (h : Int) : (soundingSc l h).1.length = l.length := by
  unfold soundingSc
  split
  · exact moveSc_length _ _
  · rfl
theorem impl_SoundingOf.ok (l : List Evt) (s : Int) (hm : l.length ≤ 1048576) (k : Nat) (hk : 2 * l.length + 20 < k) : impl_SoundingOf.f k l s = some (soundingSc l s) := by
  unfold impl_SoundingOf.f soundingSc
  rw [impl_InRange.ok, impl_Event_83.ok l hm, impl_MoveScore.ok l _ hm k hk]
  simp only [Option.bind_some]
  by_cases hr : (-36 : Int) ≤ s ∧ s ≤ 36 <;> simp [hr]
end Go.Proofs.Ytbhlmeghbfmgiaa.F

/- The octave that fits an instrument's range. -/
namespace Go.Proofs.Ytbhlmeghbfmgiaa.F
open Go.RowKit Go.Proofs.Ytbhlmeghbfmgiaa.Opened Go.Proofs.YtbhlmeghbfmgiaaW.PrintWords Go.Proofs.YtbhlmeghbfmgiaaW.PrintLast Go.Proofs.YtbhlmeghbfmgiaaW.PrintMore
set_option linter.unusedVariables false
set_option linter.unusedSimpArgs false
/-- Moved by so many half tones, it is a score in range. -/
def octOk (l : List Evt) (lo hi by_ : Int) : Bool := (moveSc l by_).2 && fitsB (moveSc l by_).1 lo hi
def octFit (l : List Evt) (lo hi : Int) : List Int → Int × Bool
  | [] => (0, false)
  | b :: bs => if octOk l lo hi b = true then (b, true) else octFit l lo hi bs
def octs : List Int := [0, 12, -12, 24, -24, 36, -36]
theorem impl_OctaveFit.loop (l : List Evt) (lo hi : Int) (hm : l.length ≤ 1048576) : ∀ (d k n : Nat), octs.length - n ≤ d → d + 2 * l.length + 30 < k → impl_OctaveFit.l0 k l lo hi octs octs.length (n : Int) = some (octFit l lo hi (octs.drop n)) := by
  intro d
  induction d with
  | zero =>
    intro k n hd hk
    obtain ⟨k, rfl⟩ : ∃ m, k = m + 1 := ⟨k - 1, by omega⟩
    simp only [impl_OctaveFit.l0]
    rw [if_neg (by omega), List.drop_of_length_le (by omega)]
    rfl
  | succ d ih =>
    intro k n hd hk
    obtain ⟨k, rfl⟩ : ∃ m, k = m + 1 := ⟨k - 1, by omega⟩
    by_cases h : n < octs.length
    · simp only [impl_OctaveFit.l0]
      have h7 : octs.length = 7 := rfl
      rw [if_pos (by omega), if_pos (by omega), if_pos (by omega), rd_nat octs n h, w1 h (by omega), impl_MoveScore.ok l _ hm k (by omega), ih k (n + 1) (by omega) (by omega), List.drop_eq_getElem_cons h, octFit]
      have hl := moveSc_length l octs[n]
      simp only [Option.bind_some]
      by_cases c : (moveSc l octs[n]).2 = true
      · rw [if_pos c, impl_FitsRange.ok _ lo hi (by omega) k (by omega)]
        simp only [Option.bind_some]
        by_cases c2 : fitsB (moveSc l octs[n]).1 lo hi = true
        · rw [if_pos c2, if_pos (by simp [octOk, c, c2])]
        · rw [if_neg c2, if_neg (by simp [octOk, c2])]
      · rw [if_neg c, if_neg (by simp [octOk, c])]
    · simp only [impl_OctaveFit.l0]
      rw [if_neg (by omega), List.drop_of_length_le (by omega)]
      rfl
theorem impl_OctaveFit.ok (l : List Evt) (lo hi : Int) (hm : l.length ≤ 1048576) (k : Nat) (hk : 2 * l.length + 60 < k) : impl_OctaveFit.f k l lo hi = some (octFit l lo hi octs) := by
  unfold impl_OctaveFit.f
  simp only [Option.bind_some]
  exact impl_OctaveFit.loop l lo hi hm 7 k 0 (by simp [octs]) (by omega)
end Go.Proofs.Ytbhlmeghbfmgiaa.F

/- Draws: what the cursor hands out is always there, and in its range. -/
namespace Go.Proofs.Ytbhlmeghbfmgiaa.F
open Go.RowKit Go.Proofs.Ytbhlmeghbfmgiaa.Opened Go.Proofs.YtbhlmeghbfmgiaaW.PrintWords Go.Proofs.YtbhlmeghbfmgiaaW.PrintLast Go.Proofs.YtbhlmeghbfmgiaaW.PrintMore
set_option linter.unusedVariables false
set_option linter.unusedSimpArgs false

theorem and255 (x : Int) : 0 ≤ Go.bits .and .i64 x 255 ∧ Go.bits .and .i64 x 255 ≤ 255 := by
  have h : (BitVec.ofInt 64 x &&& BitVec.ofInt 64 255).toNat ≤ 255 := by
    rw [BitVec.toNat_and]
    exact Nat.le_trans Nat.and_le_right (by decide)
  have e : Go.bits .and .i64 x 255 = IntKind.i64.wrap (((BitVec.ofInt 64 x &&& BitVec.ofInt 64 255).toNat : Nat) : Int) := rfl
  rw [e]
  generalize (BitVec.ofInt 64 x &&& BitVec.ofInt 64 255).toNat = n at h
  rw [IntKind.wrap_i64]
  omega
theorem spec_l1New.loop (l : List Int) (hm : l.length ≤ 9223372036854775807) : ∀ (d k n : Nat) (h : Int), l.length - n ≤ d → d < k → ∃ h', spec_l1New.l0 k l h (n : Int) = some (l, 0, h') := by
  intro d
  induction d with
  | zero =>
    intro k n h hd hk
    obtain ⟨k, rfl⟩ : ∃ m, k = m + 1 := ⟨k - 1, by omega⟩
    simp only [spec_l1New.l0]
    rw [if_neg (by omega)]
    exact ⟨h, rfl⟩
  | succ d ih =>
    intro k n h hd hk
    obtain ⟨k, rfl⟩ : ∃ m, k = m + 1 := ⟨k - 1, by omega⟩
    simp only [spec_l1New.l0]
    by_cases c : n < l.length
    · rw [if_pos (by omega)]
      by_cases c2 : (n : Int) < 4000
      · rw [if_pos c2, if_pos (by omega), w1 c hm]
        exact ih k (n + 1) _ (by omega) (by omega)
      · rw [if_neg c2]
        exact ⟨h, rfl⟩
    · rw [if_neg (by omega)]
      exact ⟨h, rfl⟩
theorem spec_l1New.ok (l : List Int) (hm : l.length ≤ 9223372036854775807) (k : Nat) (hk : l.length < k) : ∃ h', spec_l1New.f k l = some (l, 0, h') := by
  unfold spec_l1New.f
  exact spec_l1New.loop l hm l.length k 0 _ (by omega) hk
theorem spec_l1Byte.ok (b : List Int) (i h : Int) (hb : b.length ≤ 1048576) (hi : 0 ≤ i) (hi' : i ≤ b.length) : ∃ x i' h', spec_l1Byte.f b i h = some (x, i', h') ∧ (0 ≤ x ∧ x ≤ 255) ∧ 0 ≤ i' ∧ i' ≤ b.length := by
  unfold spec_l1Byte.f
  by_cases c : i < (b.length : Int)
  · rw [if_pos c, if_pos hi]
    have e : wrap64 (i + 1) = i + 1 := wid (by omega) (by omega)
    exact ⟨_, _, _, rfl, and255 _, by omega, by omega⟩
  · rw [if_neg c]
    exact ⟨_, _, _, rfl, and255 _, by omega, by omega⟩
theorem tmodR (x n : Int) (hx : 0 ≤ x) (hn : 0 < n) : 0 ≤ Int.tmod x n ∧ Int.tmod x n < n := by
  rw [Int.tmod_eq_emod_of_nonneg hx]
  exact ⟨Int.emod_nonneg _ (by omega), Int.emod_lt_of_pos _ hn⟩
/-- Below n: 0 where n is not above 0. -/
theorem spec_l1Below.ok (b : List Int) (i h n : Int) (hb : b.length ≤ 1048576) (hi : 0 ≤ i) (hi' : i ≤ b.length) : ∃ x i' h', spec_l1Below.f b i h n = some (x, i', h') ∧ 0 ≤ x ∧ (x < n ∨ (n ≤ 0 ∧ x = 0)) ∧ 0 ≤ i' ∧ i' ≤ b.length := by
  unfold spec_l1Below.f
  by_cases c : n ≤ 0
  · rw [if_pos c]
    exact ⟨_, _, _, rfl, by omega, by omega, hi, hi'⟩
  · rw [if_neg c]
    obtain ⟨x, i1, h1, e1, bx, j1, j1'⟩ := spec_l1Byte.ok b i h hb hi hi'
    rw [e1]
    simp only [Option.bind_some]
    rw [if_neg (show ¬ n = 0 by omega)]
    by_cases c2 : n ≤ 256
    · rw [if_pos c2]
      have := tmodR x n (by omega) (by omega)
      exact ⟨_, _, _, rfl, by omega, by omega, j1, j1'⟩
    · rw [if_neg c2]
      obtain ⟨y, i2, h2, e2, by_, j2, j2'⟩ := spec_l1Byte.ok b i1 h1 hb j1 j1'
      rw [e2]
      simp only [Option.bind_some]
      obtain ⟨z, i3, h3, e3, bz, j3, j3'⟩ := spec_l1Byte.ok b i2 h2 hb j2 j2'
      rw [e3]
      simp only [Option.bind_some]
      rw [if_neg (show ¬ n = 0 by omega)]
      have e : wrap64 (wrap64 (wrap64 (x * 65536) + wrap64 (y * 256)) + z) = x * 65536 + y * 256 + z := by unfold wrap64; omega
      have := tmodR (x * 65536 + y * 256 + z) n (by omega) (by omega)
      rw [e]
      exact ⟨_, _, _, rfl, by omega, by omega, j3, j3'⟩
theorem spec_l1Below.ok' (b : List Int) (i h n : Int) (hn : 0 < n) (hb : b.length ≤ 1048576) (hi : 0 ≤ i) (hi' : i ≤ b.length) : ∃ x i' h', spec_l1Below.f b i h n = some (x, i', h') ∧ 0 ≤ x ∧ x < n ∧ 0 ≤ i' ∧ i' ≤ b.length := by
  obtain ⟨x, i', h', e, a1, a2, a3, a4⟩ := spec_l1Below.ok b i h n hb hi hi'
  exact ⟨x, i', h', e, a1, by omega, a3, a4⟩
theorem spec_l1Int.ok (b : List Int) (i h : Int) (l : List Int) (hl : 0 < l.length) (hb : b.length ≤ 1048576) (hi : 0 ≤ i) (hi' : i ≤ b.length) : ∃ x i' h', spec_l1Int.f b i h l = some (x, i', h') ∧ x ∈ l ∧ 0 ≤ i' ∧ i' ≤ b.length := by
  unfold spec_l1Int.f
  obtain ⟨x, i', h', e, a1, a2, a3, a4⟩ := spec_l1Below.ok' b i h l.length (by omega) hb hi hi'
  rw [e]
  simp only [Option.bind_some]
  rw [if_pos a1, if_pos a2]
  refine ⟨_, _, _, rfl, ?_, a3, a4⟩
  obtain ⟨m, rfl⟩ := Int.eq_ofNat_of_zero_le a1
  rw [rd_nat l m (by omega)]
  exact List.getElem_mem _
end Go.Proofs.Ytbhlmeghbfmgiaa.F

/- Draws of scores: they are always there, in order and short. -/
namespace Go.Proofs.Ytbhlmeghbfmgiaa.F
open Go.RowKit Go.Proofs.Ytbhlmeghbfmgiaa.Opened Go.Proofs.YtbhlmeghbfmgiaaW.PrintWords Go.Proofs.YtbhlmeghbfmgiaaW.PrintLast Go.Proofs.YtbhlmeghbfmgiaaW.PrintMore
set_option linter.unusedVariables false
set_option linter.unusedSimpArgs false

/-- An event put into a list, behind all that stand before it. -/
def insE (e : Evt) : List Evt → List Evt
  | [] => [e]
  | x :: l => if before x e then x :: insE e l else e :: x :: l
theorem insE_length (e : Evt) : ∀ l : List Evt, (insE e l).length = l.length + 1
  | [] => rfl
  | x :: l => by
    unfold insE
    split
    · simp only [List.length_cons, insE_length e l]
    · rfl
theorem spec_l8Put.loop (e : Evt) (l : List Evt) (hm : l.length ≤ 2097152) : ∀ (d k n : Nat), l.length - n = d → n ≤ l.length → d < k → spec_l8Put.l0 k l (n : Int) e.f0 e.f1 e.f2 e.f3 = some (l.take n ++ insE e (l.drop n)) := by
  intro d
  induction d with
  | zero =>
    intro k n hd hn hk
    obtain ⟨k, rfl⟩ : ∃ m, k = m + 1 := ⟨k - 1, by omega⟩
    have hl : n = l.length := by omega
    subst hl
    have e3 : (l.take l.length).length = l.length := by simp
    have e4 : l.drop l.length = [] := by simp
    simp only [spec_l8Put.l0]
    rw [if_neg (by omega)]
    simp only [Option.bind_some, List.nil_append, List.length_nil, Int.toNat_natCast]
    rw [e4, if_pos (by omega), if_pos (by omega), if_pos (by omega)]
    rw [if_pos (by simp; omega), if_pos (by simp; omega)]
    simp [insE]
  | succ d ih =>
    intro k n hd hn hk
    obtain ⟨k, rfl⟩ : ∃ m, k = m + 1 := ⟨k - 1, by omega⟩
    have h : n < l.length := by omega
    have e4 : l.drop n = l[n] :: l.drop (n + 1) := List.drop_eq_getElem_cons h
    simp only [spec_l8Put.l0]
    rw [if_pos (by omega), if_pos (by omega), rdT26 l n h, spec_l8Before.ok]
    simp only [Option.bind_some, List.nil_append, List.length_nil, Int.toNat_natCast]
    by_cases c : before l[n] e
    · rw [if_pos (by simpa using c), w1 h (by omega), ih k (n + 1) (by omega) (by omega) (by omega), e4]
      simp only [insE, if_pos c]
      rw [List.take_succ_eq_append_getElem h, List.append_assoc]
      rfl
    · rw [if_neg (by simpa using c), if_pos (by omega), if_pos (by simp; omega), if_pos (by simp; omega), if_pos (by simp; omega), e4]
      simp only [insE, if_neg c]
      simp
theorem spec_l8Put.ok (e : Evt) (l : List Evt) (hm : l.length ≤ 2097152) (k : Nat) (hk : l.length < k) : spec_l8Put.f k l e.f0 e.f1 e.f2 e.f3 = some (insE e l) := by
  have := spec_l8Put.loop e l hm l.length k 0 (by omega) (by omega) hk
  unfold spec_l8Put.f
  simpa using this
/-- An event put into a score: what comes back. -/
def putSc (l : List Evt) (e : Evt) : List Evt × Bool := if isScoreB (insE e l) = true then (insE e l, true) else (l, false)
theorem putSc_length (l : List Evt) (e : Evt) : (putSc l e).1.length ≤ l.length + 1 := by
  unfold putSc
  split
  · rw [insE_length]; exact Nat.le_refl _
  · exact Nat.le_succ _
theorem putSc_score {l : List Evt} (h : isScoreB l = true) (e : Evt) : isScoreB (putSc l e).1 = true := by
  unfold putSc
  split
  · rename_i h'; exact h'
  · exact h
theorem spec_PutEvent.ok (l : List Evt) (e : Evt) (hm : l.length ≤ 1048576) (k : Nat) (hk : l.length + 1 < k) : spec_PutEvent.f k l e.f0 e.f1 e.f2 e.f3 = some (putSc l e) := by
  unfold spec_PutEvent.f putSc
  have hl := insE_length e l
  rw [spec_l8Put.ok e l (by omega) k (by omega)]
  simp only [Option.bind_some]
  rw [spec_IsScore.ok _ (by omega) k (by omega)]
  simp only [Option.bind_some, List.nil_append, List.length_nil]
  rw [if_pos (show 0 + l.length < 4398046511104 by omega)]
  split <;> rfl
theorem spec_l8Event.ok (b : List Int) (i h : Int) (hb : b.length ≤ 1048576) (hi : 0 ≤ i) (hi' : i ≤ b.length) : ∃ x0 x1 x2 x3 i' h', spec_l8Event.f b i h = some (x0, x1, x2, x3, i', h') ∧ okE ⟨x0, x1, x2, x3⟩ ∧ 0 ≤ i' ∧ i' ≤ b.length := by
  unfold spec_l8Event.f
  obtain ⟨x1, i1, h1, e1, a1, b1, c1, d1⟩ := spec_l1Below.ok' b i h 20 (by omega) hb hi hi'
  rw [e1]
  simp only [Option.bind_some]
  obtain ⟨x2, i2, h2, e2, a2, b2, c2, d2⟩ := spec_l1Below.ok' b i1 h1 10 (by omega) hb c1 d1
  rw [e2]
  simp only [Option.bind_some]
  obtain ⟨x3, i3, h3, e3, a3, b3, c3, d3⟩ := spec_l1Below.ok' b i2 h2 18 (by omega) hb c2 d2
  rw [e3]
  simp only [Option.bind_some]
  obtain ⟨x4, i4, h4, e4, a4, b4, c4, d4⟩ := spec_l1Below.ok' b i3 h3 3 (by omega) hb c3 d3
  rw [e4]
  simp only [Option.bind_some]
  refine ⟨_, _, _, _, _, _, rfl, ?_, c4, d4⟩
  have w1 : wrap64 (6 * x1) = 6 * x1 := wid (by omega) (by omega)
  have w2 : wrap64 (1 + x2) = 1 + x2 := wid (by omega) (by omega)
  have w3 : wrap64 (3 * (1 + x2)) = 3 * (1 + x2) := wid (by omega) (by omega)
  have w4 : wrap64 (55 + x3) = 55 + x3 := wid (by omega) (by omega)
  have w5 : wrap64 (1 + x4) = 1 + x4 := wid (by omega) (by omega)
  rw [w1, w2, w3, w4, w5]
  unfold okE
  simp only
  omega
theorem spec_l8Draw.loop (b : List Int) (hb : b.length ≤ 1048576) : ∀ (d k : Nat) (acc : List Evt) (i h : Int), 0 ≤ i → i ≤ b.length → acc.length + 2 * d + 2 < k → acc.length + d ≤ 1000 → isScoreB acc = true → ∃ l i' h', spec_l8Draw.l0 k acc (d : Int) b i h = some (l, i', h') ∧ l.length ≤ acc.length + d ∧ isScoreB l = true ∧ 0 ≤ i' ∧ i' ≤ b.length := by
  intro d
  induction d with
  | zero =>
    intro k acc i h hi hi' hk ha hs
    obtain ⟨k, rfl⟩ : ∃ m, k = m + 1 := ⟨k - 1, by omega⟩
    simp only [spec_l8Draw.l0]
    rw [if_neg (by omega)]
    exact ⟨_, _, _, rfl, by omega, hs, hi, hi'⟩
  | succ d ih =>
    intro k acc i h hi hi' hk ha hs
    obtain ⟨k, rfl⟩ : ∃ m, k = m + 1 := ⟨k - 1, by omega⟩
    simp only [spec_l8Draw.l0]
    rw [if_pos (by omega)]
    obtain ⟨x0, x1, x2, x3, i1, h1, e1, g1, c1, d1⟩ := spec_l8Event.ok b i h hb hi hi'
    rw [e1]
    simp only [Option.bind_some]
    have hp : spec_PutEvent.f k acc x0 x1 x2 x3 = some (putSc acc ⟨x0, x1, x2, x3⟩) := spec_PutEvent.ok acc ⟨x0, x1, x2, x3⟩ (by omega) k (by omega)
    rw [hp]
    simp only [Option.bind_some]
    have e : wrap64 (((d + 1 : Nat) : Int) - 1) = (d : Int) := by unfold wrap64; omega
    rw [e]
    have hl := putSc_length acc ⟨x0, x1, x2, x3⟩
    obtain ⟨l, i', h', e4, a4, s4, b4, c4⟩ := ih k (putSc acc ⟨x0, x1, x2, x3⟩).1 i1 h1 c1 d1 (by omega) (by omega) (putSc_score hs _)
    exact ⟨l, i', h', e4, by omega, s4, b4, c4⟩
theorem spec_l8Draw.ok (b : List Int) (hb : b.length ≤ 1048576) (k : Nat) (hk : 40 < k) (i h : Int) (hi : 0 ≤ i) (hi' : i ≤ b.length) : ∃ l i' h', spec_l8Draw.f k b i h = some (l, i', h') ∧ l.length ≤ 12 ∧ isScoreB l = true ∧ 0 ≤ i' ∧ i' ≤ b.length := by
  unfold spec_l8Draw.f
  obtain ⟨x1, i1, h1, e1, a1, b1, c1, d1⟩ := spec_l1Below.ok' b i h 13 (by omega) hb hi hi'
  rw [e1]
  simp only [Option.bind_some]
  obtain ⟨m, rfl⟩ := Int.eq_ofNat_of_zero_le a1
  obtain ⟨l, i', h', e4, a4, s4, b4, c4⟩ := spec_l8Draw.loop b hb m k [] i1 h1 c1 d1 (by simp; omega) (by simp; omega) (by decide)
  exact ⟨l, i', h', e4, by simp at a4; omega, s4, b4, c4⟩
theorem spec_l8Any.ok (b : List Int) (hb : b.length ≤ 1048576) (k : Nat) (hk : 40 < k) (i h : Int) (hi : 0 ≤ i) (hi' : i ≤ b.length) : ∃ l i' h', spec_l8Any.f k b i h = some (l, i', h') ∧ l.length ≤ 13 ∧ 0 ≤ i' ∧ i' ≤ b.length := by
  unfold spec_l8Any.f
  obtain ⟨l, i2, h2, e2, a2, s2, c2, d2⟩ := spec_l8Draw.ok b hb k hk i h hi hi'
  rw [e2]
  simp only [Option.bind_some]
  by_cases h0 : (l.length : Int) = 0
  · rw [if_pos h0]
    exact ⟨_, _, _, rfl, by omega, c2, d2⟩
  · rw [if_neg h0]
    obtain ⟨x3, i3, h3, e3, a3, b3, c3, d3⟩ := spec_l1Below.ok' b i2 h2 l.length (by omega) hb c2 d2
    rw [e3]
    simp only [Option.bind_some]
    obtain ⟨x4, i4, h4, e4, a4, b4, c4, d4⟩ := spec_l1Below.ok' b i3 h3 9 (by omega) hb c3 d3
    rw [e4]
    simp only [Option.bind_some]
    by_cases s0 : x4 = 0
    · rw [if_pos s0]
      obtain ⟨x5, i5, h5, e5, a5, c5, d5⟩ := spec_l1Int.ok b i4 h4 [-1, 2000, 2001] (by simp) hb c4 d4
      rw [e5]
      simp only [Option.bind_some]
      rw [if_pos a3, if_pos b3]
      exact ⟨_, _, _, rfl, by simp; omega, c5, d5⟩
    · rw [if_neg s0]
      by_cases s1 : x4 = 1
      · rw [if_pos s1]
        obtain ⟨x5, i5, h5, e5, a5, c5, d5⟩ := spec_l1Int.ok b i4 h4 [0, 96, 97] (by simp) hb c4 d4
        rw [e5]
        simp only [Option.bind_some]
        rw [if_pos a3, if_pos b3]
        exact ⟨_, _, _, rfl, by simp; omega, c5, d5⟩
      · rw [if_neg s1]
        by_cases s2 : x4 = 2
        · rw [if_pos s2]
          obtain ⟨x5, i5, h5, e5, a5, c5, d5⟩ := spec_l1Int.ok b i4 h4 [20, 108, 109] (by simp) hb c4 d4
          rw [e5]
          simp only [Option.bind_some]
          rw [if_pos a3, if_pos b3]
          exact ⟨_, _, _, rfl, by simp; omega, c5, d5⟩
        · rw [if_neg s2]
          by_cases s3 : x4 = 3
          · rw [if_pos s3]
            obtain ⟨x5, i5, h5, e5, a5, c5, d5⟩ := spec_l1Int.ok b i4 h4 [0, 4, 5] (by simp) hb c4 d4
            rw [e5]
            simp only [Option.bind_some]
            rw [if_pos a3, if_pos b3]
            exact ⟨_, _, _, rfl, by simp; omega, c5, d5⟩
          · rw [if_neg s3]
            by_cases s4 : x4 = 4
            · rw [if_pos s4, if_pos (by omega), if_pos (by omega)]
              exact ⟨_, _, _, rfl, by simp; omega, c4, d4⟩
            · rw [if_neg s4]
              exact ⟨_, _, _, rfl, by omega, c4, d4⟩
end Go.Proofs.Ytbhlmeghbfmgiaa.F

/- The pure statement of FnMoves: over numbers and lists alone. -/
namespace Go.Proofs.Ytbhlmeghbfmgiaa.Pure
open Go.RowKit Go.Proofs.Ytbhlmeghbfmgiaa.F Go.Proofs.Ytbhlmeghbfmgiaa.Opened Go.Proofs.YtbhlmeghbfmgiaaW.PrintWords Go.Proofs.YtbhlmeghbfmgiaaW.PrintLast Go.Proofs.YtbhlmeghbfmgiaaW.PrintMore
set_option linter.unusedVariables false
set_option linter.unusedSimpArgs false

theorem eqLoop (a : List Evt) (hm : a.length ≤ 9223372036854775807) : ∀ (d k n : Nat), a.length - n ≤ d → d < k → impl_Event_87.l0 k a a (a.length : Int) (n : Int) = some true := by
  intro d
  induction d with
  | zero =>
    intro k n hd hk
    obtain ⟨k, rfl⟩ : ∃ m, k = m + 1 := ⟨k - 1, by omega⟩
    simp only [impl_Event_87.l0]
    rw [if_neg (by omega)]
  | succ d ih =>
    intro k n hd hk
    obtain ⟨k, rfl⟩ : ∃ m, k = m + 1 := ⟨k - 1, by omega⟩
    simp only [impl_Event_87.l0]
    by_cases h : n < a.length
    · rw [if_pos (by omega), if_pos (by omega), if_pos (by omega), if_pos (by omega), if_neg (by simp), w1 h hm]
      exact ih k (n + 1) (by omega) (by omega)
    · rw [if_neg (by omega)]
theorem eqSelf (a : List Evt) (hm : a.length ≤ 9223372036854775807) (k : Nat) (hk : a.length < k) : impl_EqualScores.f k a a = some true := by
  unfold impl_EqualScores.f impl_Event_87.f
  have e := eqLoop a hm a.length k 0 (by omega) hk
  rw [show ((0 : Nat) : Int) = 0 from rfl] at e
  rw [if_pos rfl, e]
  rfl
theorem drawMS (l0 : List Int) (hb : l0.length ≤ 1048576) (k : Nat) (hk : l0.length + 60 < k) : ∃ l s, spec_DrawMoveScore.f k l0 = some (l, s) ∧ l.length ≤ 13 := by
  unfold spec_DrawMoveScore.f
  obtain ⟨h1, e1⟩ := spec_l1New.ok l0 (by omega) k (by omega)
  rw [e1]
  simp only [Option.bind_some]
  obtain ⟨l, i2, h2, e2, a2, c2, d2⟩ := spec_l8Any.ok l0 hb k (by omega) 0 h1 (by omega) (by omega)
  rw [e2]
  simp only [Option.bind_some]
  obtain ⟨x5, i5, h5, e5, a5, c5, d5⟩ := spec_l1Int.ok l0 i2 h2 [0, 1, -5, 12, -24, 37, 60, -60, 101, -101] (by simp) hb c2 d2
  rw [e5]
  exact ⟨_, _, rfl, a2⟩
theorem drawWF (l0 : List Int) (hb : l0.length ≤ 1048576) (k : Nat) (hk : l0.length + 60 < k) : ∃ l s, spec_DrawWrittenFor.f k l0 = some (l, s) ∧ l.length ≤ 13 := by
  unfold spec_DrawWrittenFor.f
  obtain ⟨l, s, e, h⟩ := drawMS l0 hb k hk
  rw [e]
  exact ⟨_, _, rfl, h⟩
theorem drawOF (l0 : List Int) (hb : l0.length ≤ 1048576) (k : Nat) (hk : l0.length + 60 < k) : ∃ l a b, spec_DrawOctaveFit.f k l0 = some (l, a, b) ∧ l.length ≤ 13 := by
  unfold spec_DrawOctaveFit.f
  obtain ⟨h1, e1⟩ := spec_l1New.ok l0 (by omega) k (by omega)
  rw [e1]
  simp only [Option.bind_some]
  obtain ⟨l, i2, h2, e2, a2, c2, d2⟩ := spec_l8Any.ok l0 hb k (by omega) 0 h1 (by omega) (by omega)
  rw [e2]
  simp only [Option.bind_some]
  rw [spec_LowHigh.ok l (by omega) k (by omega)]
  simp only [Option.bind_some]
  obtain ⟨x5, i5, h5, e5, a5, c5, d5⟩ := spec_l1Int.ok l0 i2 h2 [0, 12, -12, 24, 36, 5, -30, 48] (by simp) hb c2 d2
  rw [e5]
  simp only [Option.bind_some]
  obtain ⟨x3, i3, h3, e3, a3, b3, c3, d3⟩ := spec_l1Below.ok' l0 i5 h5 5 (by omega) hb c5 d5
  rw [e3]
  simp only [Option.bind_some]
  obtain ⟨x4, i4, h4, e4, a4, b4, c4, d4⟩ := spec_l1Below.ok' l0 i3 h3 5 (by omega) hb c3 d3
  rw [e4]
  exact ⟨_, _, _, rfl, a2⟩
theorem drawFR (l0 : List Int) (hb : l0.length ≤ 1048576) (k : Nat) (hk : l0.length + 60 < k) : ∃ l a b, spec_DrawFitsRange.f k l0 = some (l, a, b) ∧ l.length ≤ 13 := by
  unfold spec_DrawFitsRange.f
  obtain ⟨h1, e1⟩ := spec_l1New.ok l0 (by omega) k (by omega)
  rw [e1]
  simp only [Option.bind_some]
  obtain ⟨l, i2, h2, e2, a2, c2, d2⟩ := spec_l8Any.ok l0 hb k (by omega) 0 h1 (by omega) (by omega)
  rw [e2]
  simp only [Option.bind_some]
  rw [spec_LowHigh.ok l (by omega) k (by omega)]
  simp only [Option.bind_some]
  obtain ⟨x3, i3, h3, e3, a3, b3, c3, d3⟩ := spec_l1Below.ok' l0 i2 h2 3 (by omega) hb c2 d2
  rw [e3]
  simp only [Option.bind_some]
  obtain ⟨x4, i4, h4, e4, a4, b4, c4, d4⟩ := spec_l1Below.ok' l0 i3 h3 3 (by omega) hb c3 d3
  rw [e4]
  exact ⟨_, _, _, rfl, a2⟩
/-- What is written for an instrument sounds as it did. -/
theorem sound_written (l : List Evt) (s : Int) (h : (writtenSc l s).2 = true) : soundingSc (writtenSc l s).1 s = (l, true) := by
  by_cases hs : (-36 : Int) ≤ s ∧ s ≤ 36
  · have e1 : wrap64 (-s) = -s := wid (by omega) (by omega)
    have ew : writtenSc l s = moveSc l (-s) := by unfold writtenSc; rw [if_pos hs, e1]
    rw [ew] at h ⊢
    unfold soundingSc
    rw [if_pos hs]
    unfold moveSc at h
    by_cases h1 : isScoreB l = true ∧ ((-100 : Int) ≤ -s ∧ -s ≤ 100)
    · rw [if_pos h1] at h
      by_cases h2 : isScoreB (l.map (shE (-s))) = true
      · have em : moveSc l (-s) = (l.map (shE (-s)), true) := by unfold moveSc; rw [if_pos h1, if_pos h2]
        rw [em]
        have hb : (l.map (shE (-s))).map (shE s) = l := by
          rw [List.map_map]
          have hok := ((isScoreB_iff l).1 h1.1).1
          conv => rhs; rw [← List.map_id l]
          apply List.map_congr_left
          intro e he
          have := hok e he
          unfold okE at this
          have w1 : wrap64 (e.f2 + -s) = e.f2 + -s := wid (by omega) (by omega)
          have w2 : wrap64 (e.f2 + -s + s) = e.f2 := by rw [wid (by omega) (by omega)]; omega
          show shE s (shE (-s) e) = e
          unfold shE
          simp only [w1, w2]
        unfold moveSc
        rw [if_pos ⟨h2, by omega, by omega⟩, hb, if_pos h1.1]
      · rw [if_neg h2] at h
        exact absurd h (by simp)
    · rw [if_neg h1] at h
      exact absurd h (by simp)
  · unfold writtenSc at h
    rw [if_neg hs] at h
    exact absurd h (by simp)
theorem octFit_ok (l : List Evt) (lo hi : Int) : ∀ bs : List Int, (octFit l lo hi bs).2 = true → (octFit l lo hi bs).1 ∈ bs ∧ octOk l lo hi (octFit l lo hi bs).1 = true
  | [], h => by simp [octFit] at h
  | b :: bs, h => by
    unfold octFit at h ⊢
    by_cases c : octOk l lo hi b = true
    · rw [if_pos c]
      exact ⟨by simp, c⟩
    · rw [if_neg c] at h ⊢
      obtain ⟨h1, h2⟩ := octFit_ok l lo hi bs h
      exact ⟨List.mem_cons_of_mem _ h1, h2⟩
theorem fold_low (lo hi : Int) : ∀ (l : List Evt) (p : Int × Int), (lo ≤ (l.foldl lhStep p).1 ∧ (l.foldl lhStep p).2 ≤ hi) ↔ ((lo ≤ p.1 ∧ p.2 ≤ hi) ∧ ∀ x ∈ l, lo ≤ x.f2 ∧ x.f2 ≤ hi)
  | [], p => by simp
  | e :: l, p => by
    rw [List.foldl_cons, fold_low lo hi l (lhStep p e)]
    simp only [List.mem_cons, forall_eq_or_imp]
    have : (lo ≤ (lhStep p e).1 ∧ (lhStep p e).2 ≤ hi) ↔ ((lo ≤ p.1 ∧ p.2 ≤ hi) ∧ (lo ≤ e.f2 ∧ e.f2 ≤ hi)) := by
      unfold lhStep mn mx
      simp only
      constructor
      · intro h; repeat' split at h
        all_goals omega
      · intro h; repeat' split
        all_goals omega
    rw [this]
    constructor
    · rintro ⟨⟨h1, h2⟩, h3⟩; exact ⟨h1, h2, h3⟩
    · rintro ⟨h1, h2, h3⟩; exact ⟨⟨h1, h2⟩, h3⟩
/-- A score fits a range just where it is empty or its lowest and its highest pitch do. -/
theorem fits_low (l : List Evt) (lo hi : Int) (hs : isScoreB l = true) : fitsB l lo hi = true ↔ (l.length = 0 ∨ (lo ≤ (lowHigh l).1 ∧ (lowHigh l).2 ≤ hi)) := by
  unfold fitsB
  rw [hs, Bool.and_true, List.all_eq_true]
  cases l with
  | nil => simp
  | cons e l =>
    simp only [lowHigh, if_pos hs]
    rw [fold_low lo hi l (e.f2, e.f2)]
    simp only [List.mem_cons, forall_eq_or_imp, decide_eq_true_eq, List.length_cons]
    constructor
    · rintro ⟨h1, h2⟩; exact .inr ⟨h1, h2⟩
    · rintro (h | ⟨h1, h2⟩)
      · omega
      · exact ⟨h1, h2⟩
theorem lastPart (l0 : List Int) (hb : l0.length ≤ 1048576) (k : Nat) (hk : l0.length + 100 < k) : laws_FnMoves.j1 k l0 = some true := by
  obtain ⟨k, rfl⟩ : ∃ m, k = m + 1 := ⟨k - 1, by omega⟩
  simp only [laws_FnMoves.j1]
  obtain ⟨l, a, b, e, h⟩ := drawFR l0 hb k (by omega)
  rw [e]
  simp only [Option.bind_some]
  rw [impl_LowHigh.ok l (by omega) k (by omega), impl_FitsRange.ok l a b (by omega) k (by omega), impl_IsScore.ok l (by omega) k (by omega)]
  simp only [Option.bind_some]
  by_cases hs : isScoreB l = true
  · rw [if_pos hs]
    have hf := fits_low l a b hs
    by_cases h0 : (l.length : Int) = 0
    · rw [if_pos h0, hf.2 (.inl (by omega))]
      rfl
    · rw [if_neg h0]
      by_cases h1 : (lowHigh l).1 ≥ a
      · rw [if_pos h1]
        by_cases h2 : (lowHigh l).2 ≤ b
        · rw [hf.2 (.inr ⟨h1, h2⟩), decide_eq_true h2]
          rfl
        · have : fitsB l a b = false := by
            rw [Bool.eq_false_iff]
            intro hh
            rcases hf.1 hh with h3 | h3 <;> omega
          rw [this, decide_eq_false h2]
          rfl
      · rw [if_neg h1]
        have : fitsB l a b = false := by
          rw [Bool.eq_false_iff]
          intro hh
          rcases hf.1 hh with h3 | h3 <;> omega
        rw [this]
        rfl
  · rw [if_neg hs]
    have : fitsB l a b = false := by
      unfold fitsB
      rw [Bool.eq_false_iff.2 hs, Bool.and_false]
    rw [this]
    rfl
theorem octPart (l0 : List Int) (hb : l0.length ≤ 1048576) (k : Nat) (hk : l0.length + 200 < k) : laws_FnMoves.j0 k l0 = some true := by
  obtain ⟨k, rfl⟩ : ∃ m, k = m + 1 := ⟨k - 1, by omega⟩
  simp only [laws_FnMoves.j0]
  obtain ⟨l, a, b, e, h⟩ := drawOF l0 hb k (by omega)
  rw [e]
  simp only [Option.bind_some]
  rw [impl_OctaveFit.ok l a b (by omega) k (by omega)]
  simp only [Option.bind_some]
  have hj := lastPart l0 hb k (by omega)
  by_cases hf : (octFit l a b octs).2 = true
  · rw [if_pos hf]
    obtain ⟨hin, hok⟩ := octFit_ok l a b octs hf
    generalize (octFit l a b octs).1 = s at hin hok ⊢
    have hl := moveSc_length l s
    unfold octOk at hok
    rw [Bool.and_eq_true] at hok
    have hsc : isScoreB (moveSc l s).1 = true := by
      have := hok.2
      unfold fitsB at this
      rw [Bool.and_eq_true] at this
      exact this.2
    have h12 : Int.tmod s 12 = 0 := by
      unfold octs at hin
      simp only [List.mem_cons, List.not_mem_nil, or_false] at hin
      rcases hin with rfl | rfl | rfl | rfl | rfl | rfl | rfl <;> rfl
    rw [impl_MoveScore.ok l s (by omega) k (by omega)]
    simp only [Option.bind_some]
    rw [impl_LowHigh.ok _ (by omega) k (by omega)]
    simp only [Option.bind_some]
    rw [if_pos hok.1, if_pos h12, impl_FitsRange.ok _ a b (by omega) k (by omega)]
    simp only [Option.bind_some]
    rw [if_pos hok.2]
    have hff := (fits_low _ a b hsc).1 hok.2
    by_cases h0 : ((moveSc l s).1.length : Int) > 0
    · rw [if_pos h0, if_neg (by omega), if_neg (by omega)]
      exact hj
    · rw [if_neg h0]
      exact hj
  · rw [if_neg hf]
    exact hj
theorem pure_FnMoves (l0 : List Int) (hl : l0.length ≤ 9223372036854775807) (hg : ∀ x ∈ l0, (Lit.int .u8 x).wf = true) : ∃ k, laws_FnMoves.f k l0 = some true := by
  by_cases hb : (l0.length : Int) > 1048576
  · refine ⟨0, ?_⟩
    unfold laws_FnMoves.f laws_big.f
    simp [hb]
  · obtain ⟨K, hK⟩ : ∃ K : Nat, l0.length + 10000 ≤ K := ⟨_, Nat.le_refl _⟩
    refine ⟨K, ?_⟩
    have hj := octPart l0 (by omega) K (by omega)
    obtain ⟨l, s, e, h⟩ := drawWF l0 (by omega) K (by omega)
    unfold laws_FnMoves.f laws_big.f
    simp only [Option.bind_some, hb, decide_false, Bool.false_eq_true, if_false]
    rw [e]
    simp only [Option.bind_some]
    rw [impl_WrittenFor.ok l s (by omega) K (by omega), spec_WrittenFor.ok l s (by omega) K (by omega)]
    simp only [Option.bind_some]
    rw [if_neg (by simp)]
    by_cases hw : (writtenSc l s).2 = true
    · have hl := writtenSc_length l s
      rw [if_pos hw, impl_SoundingOf.ok _ s (by omega) K (by omega), sound_written l s hw]
      simp only [Option.bind_some, if_true]
      rw [eqSelf l (by omega) K (by omega)]
      simp only [Option.bind_some, if_true]
      exact hj
    · rw [if_neg hw]
      exact hj

end Go.Proofs.Ytbhlmeghbfmgiaa.Pure

/- FnMoves: for every input the law answers true, and each argument reads behind the call as it read before. No condition. -/
namespace Go.Proofs.Ytbhlmeghbfmgiaa.fnMoves
open Go.ChangeShapes Go.WideShapes Go.ChangeAt Go.RowKit Go.Joins Go.Proofs.YtbhlmeghbfmgiaaW.PrintWords Go.Proofs.Ytbhlmeghbfmgiaa.Opened Go.Proofs.Ytbhlmeghbfmgiaa.F
open Go.ChangeMaps (open_string shut_string)
set_option linter.unusedVariables false
theorem own : ownKnob Try.prog.godebug = none := by kernel_rfl
theorem laidOut : laidOutB Try.prog = true := by kernel_rfl
set_option maxRecDepth 100000 in
theorem lifted (os : Os) (started : os.Started) (H : Type) (enc : TypeId × Value → H) :
    ReturnsInHanded {} Try.checked os 6 .any (Rows.fnMovesSpec.pre6 enc Try.prog Try.f6 Rows.fnMovesRow.domain false) (Rows.fnMovesSpec.post enc Try.prog Try.f6 false true false false) := by
  refine returnsInHanded_of_change_sized (C := Try.checked) own started (by kernel_rfl) Try.func6
    (ChangeSpec.witness6 (enc := enc) (C := Try.checked) false ⟨#[], #[.slice none 0 0], []⟩ 8 (by kernel_rfl) (by kernel_rfl) (by kernel_rfl) (by kernel_rfl)) ?_
  intro W base args ds gs before hval0 hW hcnd hsz0 _
  have hval : ∀ (j : Nat) t v, Try.f6.params[j]? = some t → args[j]? = some v → Value.okWide Try.prog W .any base t v := hval0
  have hW' := hW
  obtain ⟨p, q, hA0, hV, rfl, hfz, hnd⟩ := hW
  have hA : DataW.TrodAll enc Try.prog W 0 (fun _ => true) true Try.f6.params.toList args.toList ds p := hA0
  rw [Try.params6] at hA hval
  obtain ⟨v0, vs0, d0, ds0, p0, q0, hargs, rfl, rfl, h0, r0⟩ := trodAll_cons hA
  obtain ⟨rfl, rfl, rfl⟩ := trodAll_nil r0
  obtain rfl : args = #[v0] := by cases args; simp_all
  obtain ⟨rfl, rfl⟩ := trodVars_none hV
  have k0 := h0
  have lt0 : ∀ x ∈ p0, x.block < W.heap.size := by obtain ⟨m, hm⟩ := k0; exact DataW.trod_lt m _ _ _ hm
  obtain ⟨b0, len0, cap0, rfl⟩ := okWide_slice Try.underlying22 (hval 0 22 v0 rfl rfl)
  obtain ⟨l0, hl0, hc0, hC0, hg0⟩ := open_nums (k := .u8) Try.underlying22 Try.underlying5 (by kernel_rfl) h0
  subst hl0
  clear hA0 hval0 hsz0
  obtain ⟨kk, hp⟩ := Pure.pure_FnMoves l0 hC0.2.1 hg0
  refine (laws_FnMoves.calls kk _ _ l0 true W hC0 hc0 hp).mono fun e W' ⟨he, bel0⟩ => ?_
  have bel : Below W.heap.size W W' := bel0
  subst he
  exact ⟨_, rfl, _, _, _, [], _, [], hW', trodAll_mk1 (shut_bool Try.underlying4 _), (trodAll_cons_mk (Below.trod laidOut (by kernel_rfl) (of_decide_eq_true (by kernel_rfl)) k0 bel lt0) trodAll_mk0), rfl, bel.frame _, fun h => by cases h⟩
theorem over : Rows.fnMovesRow.holds Try.pinned (OpenSpec.ofChange Rows.fnMovesSpec) :=
  OpenClaim.holds_of_wide 6 Try.f6 rfl rfl rfl rfl rfl rfl rfl ⟨rfl, rfl, rfl, rfl, rfl⟩ rfl rfl rfl rfl rfl (by kernel_rfl) Try.func6 (by kernel_rfl)
    (of_decide_eq_true (by kernel_rfl)) (by unfold Func.isWrapper; first | (rw [if_pos (by decide +kernel)]; kernel_rfl) | (rw [if_neg (by decide +kernel)]; exact ⟨rfl, rfl⟩))
    (fun os started H enc _ => lifted os started H enc)
theorem proved : Rows.FnMovesSaid := over
#print axioms proved
end Go.Proofs.Ytbhlmeghbfmgiaa.fnMoves
namespace Go.Proofs.Ytbhlmeghbfmgiaa
/-- The row, under a short name, for the claim. -/
theorem fnMoves_holds : Rows.FnMovesSaid := fnMoves.proved
end Go.Proofs.Ytbhlmeghbfmgiaa
