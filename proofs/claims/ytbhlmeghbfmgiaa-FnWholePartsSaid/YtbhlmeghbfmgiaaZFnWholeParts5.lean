/- FnWholeParts, part 5 of 7: texts of the claim, joined into one file. -/
import Derived.Test.YtbhlmeghbfmgiaaZFnWholeParts4

namespace Go.Proofs.Ytbhlmeghbfmgiaa.F
open Go.RowKit Go.Proofs.YtbhlmeghbfmgiaaW.PrintWords Go.Proofs.YtbhlmeghbfmgiaaW.PrintLast Go.Proofs.YtbhlmeghbfmgiaaW.PrintMore
attribute [local go_sem] max2_int min2_int max_two min_two max_three min_three max_four min_four
set_option linter.unusedVariables false
set_option linter.unusedSimpArgs false
mutual
def impl_PartFrom.j0 : Nat → List (S26) → Int → Int → List (S111) → Int → Bool → Option ((List (S111)) × Bool)
 | 0, _, _, _, _, _, _ => none
 | k + 1, x0, x1, x2, x8, x9, x19 => if x19 = true then (some (x8, false)) else ((impl_VoiceOf.f x0 x1).bind fun t1757 => (impl_PartFrom.l0 k x2 x8 x9 t1757 (t1757.length : Int) 0))
def impl_PartFrom.l0 : Nat → Int → List (S111) → Int → List (S26) → Int → Int → Option ((List (S111)) × Bool)
 | 0, _, _, _, _, _, _ => none
 | k + 1, x2, x8, x9, x23, x24, x25 => if x25 < x24 then (if 0 ≤ x25 then (if x25 < (x23.length : Int) then (if ((rd_T26 x23 x25).f0) < x9 then (some ((([] : List (S111))), false)) else (if ((rd_T26 x23 x25).f0) > x9 then (if x8.length < 5864062014805 then ((some (x8 ++ [(⟨x9, wrap64 (((rd_T26 x23 x25).f0) - x9), 0⟩ : S111)] : List (S111))).bind fun y1765 => (if y1765.length < 5864062014805 then (impl_PartFrom.l0 k x2 (y1765 ++ [(⟨(rd_T26 x23 x25).f0, (rd_T26 x23 x25).f1, (rd_T26 x23 x25).f2⟩ : S111)]) (wrap64 (((rd_T26 x23 x25).f0) + ((rd_T26 x23 x25).f1))) x23 x24 (wrap64 (x25 + 1))) else (none))) else (none)) else (if x8.length < 5864062014805 then (impl_PartFrom.l0 k x2 (x8 ++ [(⟨(rd_T26 x23 x25).f0, (rd_T26 x23 x25).f1, (rd_T26 x23 x25).f2⟩ : S111)]) (wrap64 (((rd_T26 x23 x25).f0) + ((rd_T26 x23 x25).f1))) x23 x24 (wrap64 (x25 + 1))) else (none)))) else (none)) else (none)) else (if x2 < x9 then (some ((([] : List (S111))), false)) else (if x2 > x9 then (if x8.length < 5864062014805 then (some ((x8 ++ [(⟨x9, wrap64 (x2 - x9), 0⟩ : S111)]), true)) else (none)) else (some (x8, true))))
end
def impl_PartFrom.f (k : Nat) (l0 : List (S26)) (a1 : Int) (a2 : Int) : Option ((List (S111)) × Bool) := (some (([] : List (S111)) : List (S111))).bind fun y1753 => ((impl_IsScore.f k l0).bind fun t1756 => (if t1756 = true then (impl_PartFrom.j0 k l0 a1 a2 y1753 0 (decide (a2 > 2096))) else (impl_PartFrom.j0 k l0 a1 a2 y1753 0 true)))
def impl_PartFrom.T11 : Bool × List (List Nat × List Nat) := (true, [([], []), ([], []), ([1], [1]), ([], []), ([3], [3]), ([], []), ([5], [5]), ([2, 4, 6], [2, 4, 6]), ([7], [7]), ([0, 8], [0, 8]), ([], []), ([10], [10]), ([], []), ([12], [12]), ([11, 13], [11, 13]), ([9, 9, 0, 1, 2, 3, 4, 5, 6, 7, 8, 9], [0, 9]), ([14, 15, 0, 1, 2, 3, 4, 5, 6, 7, 8, 9, 10, 11, 12, 13, 14, 15], [14])])
def impl_PartFrom.B11 : List Nat := [0, 0, 2, 0, 8, 0, 32, 126, 254, 511, 0, 1024, 0, 4096, 15360, 1023, 65535]
theorem impl_PartFrom.tab11 : rtab .any (opsOf Try.f67 11) = impl_PartFrom.T11 := by kernel_rfl
theorem impl_PartFrom.bits11 : waitsOk impl_PartFrom.T11.2 impl_PartFrom.B11 = true := by kernel_rfl
set_option maxHeartbeats 8000000 in
set_option maxRecDepth 100000 in
theorem impl_PartFrom.calls (k : Nat) (A0 : Option Addr) (c0 : Nat) (l0 : List (S26)) (a1 : Int) (a2 : Int) (r1 : List (S111)) (r2 : Bool) (w : World) (hr0 : Kd.C k26 w A0 l0.length l0) (hc0 : l0.length ≤ c0) (h : impl_PartFrom.f k l0 a1 a2 = some (r1, r2)) :
  Calls Try.prog 67 #[.slice A0 l0.length c0, .int .i64 a1, .int .i64 a2] w fun e w' => ∃ v0_ : Value, e = .returned (.tuple #[v0_, .bool r2]) ∧ Kd.R k111 111 w' w.heap.size (fun _ => True) v0_ r1 ∧ Below w.heap.size w w' := by
 have hu26 := Try.underlying26
 have hu111 := Try.underlying111
 have HR0 := Aside0.mk hr0
 have HC0 := Aside0.mk hc0
 clear hr0 hc0
 have HB := Aside0.mk (Below.refl w.heap.size w)
 have H : ((some (([] : List (S111)) : List (S111))).bind fun y1753 => ((impl_IsScore.f k l0).bind fun t1756 => (if t1756 = true then (impl_PartFrom.j0 k l0 a1 a2 y1753 0 (decide (a2 > 2096))) else (impl_PartFrom.j0 k l0 a1 a2 y1753 0 true)))) = some (r1, r2) := h
 clear h
 obtain ⟨y1753, hy1753⟩ : ∃ y_ : List (S111), y_ = (([] : List (S111))) := ⟨_, rfl⟩
 replace H : ((impl_IsScore.f k l0).bind fun t1756 => (if t1756 = true then (impl_PartFrom.j0 k l0 a1 a2 y1753 0 (decide (a2 > 2096))) else (impl_PartFrom.j0 k l0 a1 a2 y1753 0 true))) = some (r1, r2) := by first | (rw [hy1753]; with_reducible exact H) | (have H2_ := (Option.bind_some _ _).symm.trans H; rw [hy1753]; with_reducible exact H2_) | (have H2_ := (Option.bind_some _ _).symm.trans H; with_reducible exact H2_) | with_reducible exact H | (rw [hy1753]; exact H) | exact H
 have Ny1753 := Aside0.mk hy1753
 clear hy1753
 have HC4 := Aside0.mk H
 clear H
 go_enter Try.func67, Try.ntmps67
 go_upto_region 2 with (first | ((with_reducible refine gate_dst (N := 12) rfl ?_); refine Kd.R_lit k111 _ 111 ?hg (N := 12) ?hd (xs := ([] : List (S111))) (inner := []) (ok := fun _ => True) (okp := fun _ => True) ?hr ?hp (fun _ hk => hk) trivial (Below.refl _ _) (Nat.le_refl _) (by simp) ?_; (case hd => rfl); (case hg => rfl); (case hr => first | (go_simp; done) | (go_simp; rfl)); (case hp => exact (Reps.none _ _)); intro v1754 w5 ho6 hb hg_ hnew_; clear hg_ hnew_; (first | rw [← Ny1753.out] at ho6 | (simp only [Int.reduceToNat] at ho6; rw [← Ny1753.out] at ho6)); have n0_ := Aside0.mk (Kd.R_lower ho6 (below_size (by repeat (first | (with_reducible first | exact HB.out | apply below_alloc | apply pw_below_drewN | apply below_drew1) | exact HB.out)))); have n1_ := Aside0.mk (below_step (by repeat (first | (with_reducible first | exact HB.out | apply below_alloc | apply pw_below_drewN | apply below_drew1) | exact HB.out)) hb); clear HB; have HO1755 := n0_; have HB := n1_; clear n0_ n1_; clear hb ho6))
 (try simp only [Act.put, List.setIfInBounds_toArray, List.set_cons_zero, List.set_cons_succ])
 go_cut [19] (fun v19 wc => ∃ (kq : Nat) (x19_3 : Bool), v19 = .bool x19_3 ∧ Aside0 (impl_PartFrom.j0 kq l0 a1 a2 y1753 0 x19_3 = some (r1, r2)) ∧ Aside0 (kq ≤ k) ∧ Aside0 (Kd.R k111 111 wc w.heap.size (fun _ => True) v1754 y1753) ∧ Aside0 (Below w.heap.size w wc))
 case first =>
  have H := HC4.out
  clear HC4
  replace H := Option.bind_eq_some_iff.mp H
  obtain ⟨t1756, A70, H⟩ := H
  try dsimp only at H
  have A7 := Aside0.mk A70
  clear A70
  by_cases c8 : t1756 = true
  ·
   subst c8
   rw [if_pos rfl] at H
   have H' := Aside0.mk H
   clear H
   go_wp2_with (first | ((with_reducible refine gate_callee (f := 14) rfl ?_); refine goesL_ (some 14) rfl rfl Try.func14 (by kernel_rfl) rfl #[.slice A0 l0.length c0] rfl (by (try simp only [List.map_toArray, List.map_cons, List.map_nil]); first | done | rfl | (simp only [List.length_drop, List.length_take]; rfl)) ?_; (with_reducible refine (impl_IsScore.calls k _ _ l0 true _ ?side1 ?side2 A7.out).mono ?_); (case side1 => repeat (first | exact (Kd.C_below HR0.out HB.out) | (with_reducible refine Kd.C_alloc ?_ _) | (with_reducible refine Kd.C_drewN ?_ _) | (with_reducible refine Kd.C_drew ?_))); (case side2 => exact HC0.out); rintro e w9 ⟨rfl, hb⟩; refine ⟨_, rfl, ?_⟩; have n0_ := Aside0.mk (Kd.R_below (by (with_reducible repeat (first | apply Kd.R_alloc | apply Kd.R_drewN | apply Kd.R_drew)); exact HO1755.out) hb); have n1_ := Aside0.mk (below_step (by repeat (first | (with_reducible first | exact HB.out | apply below_alloc | apply pw_below_drewN | apply below_drew1) | exact HB.out)) hb); clear HO1755; clear HB; have HO1755 := n0_; have HB := n1_; clear n0_ n1_; (try clear hb); (try clear hb2); (try clear hk); (try clear hi)))
   go_meet
   case rel => exact ⟨_, (decide (a2 > 2096)), (by first | rfl | (simp; done) | (simp [*]; done)), H', ⟨by first | omega | exact Nat.le_refl _⟩, ⟨by (with_reducible repeat (first | apply Kd.R_alloc | apply Kd.R_drewN | apply Kd.R_drew)); exact HO1755.out⟩, ⟨by repeat (first | (with_reducible first | exact HB.out | apply below_alloc | apply pw_below_drewN | apply below_drew1) | exact HB.out)⟩⟩
  ·
   replace c8 := Bool.eq_false_iff.mpr c8
   subst c8
   rw [if_neg (show ¬ (false = true) by decide)] at H
   have H' := Aside0.mk H
   clear H
   go_wp2_with (first | ((with_reducible refine gate_callee (f := 14) rfl ?_); refine goesL_ (some 14) rfl rfl Try.func14 (by kernel_rfl) rfl #[.slice A0 l0.length c0] rfl (by (try simp only [List.map_toArray, List.map_cons, List.map_nil]); first | done | rfl | (simp only [List.length_drop, List.length_take]; rfl)) ?_; (with_reducible refine (impl_IsScore.calls k _ _ l0 false _ ?side1 ?side2 A7.out).mono ?_); (case side1 => repeat (first | exact (Kd.C_below HR0.out HB.out) | (with_reducible refine Kd.C_alloc ?_ _) | (with_reducible refine Kd.C_drewN ?_ _) | (with_reducible refine Kd.C_drew ?_))); (case side2 => exact HC0.out); rintro e w10 ⟨rfl, hb⟩; refine ⟨_, rfl, ?_⟩; have n0_ := Aside0.mk (Kd.R_below (by (with_reducible repeat (first | apply Kd.R_alloc | apply Kd.R_drewN | apply Kd.R_drew)); exact HO1755.out) hb); have n1_ := Aside0.mk (below_step (by repeat (first | (with_reducible first | exact HB.out | apply below_alloc | apply pw_below_drewN | apply below_drew1) | exact HB.out)) hb); clear HO1755; clear HB; have HO1755 := n0_; have HB := n1_; clear n0_ n1_; (try clear hb); (try clear hb2); (try clear hk); (try clear hi)))
   go_meet
   case rel => exact ⟨_, (true), (by first | rfl | (simp; done) | (simp [*]; done)), H', ⟨by first | omega | exact Nat.le_refl _⟩, ⟨by (with_reducible repeat (first | apply Kd.R_alloc | apply Kd.R_drewN | apply Kd.R_drew)); exact HO1755.out⟩, ⟨by repeat (first | (with_reducible first | exact HB.out | apply below_alloc | apply pw_below_drewN | apply below_drew1) | exact HB.out)⟩⟩
 case rest =>
  clear HC4
  try clear c1
  try clear p2
  try clear c6
  try clear c8
  obtain ⟨kq, x19_3, rfl, HA, HJ3, HO_8, HB⟩ := hcut
  cases kq with
  | zero => exact absurd HA.out (by simp [impl_PartFrom.j0])
  | succ kj3 =>
   have H := HA.out
   clear HA
   simp only [impl_PartFrom.j0] at H
   by_cases c11 : x19_3 = true
   ·
    subst c11
    rw [if_pos rfl] at H
    simp only [Option.some.injEq, Prod.mk.injEq] at H
    obtain ⟨rfl, rfl⟩ := H
    go_wp2
    go_ret2
    exact ⟨_, by first | rfl | (simp [errW_none, errW_some] <;> rfl) | (simp [*, errW_none, errW_some] <;> rfl), by (with_reducible repeat (first | apply Kd.R_alloc | apply Kd.R_drewN | apply Kd.R_drew)); exact HO_8.out, by repeat (first | (with_reducible first | exact HB.out | apply below_alloc | apply pw_below_drewN | apply below_drew1) | exact HB.out)⟩
   ·
    replace c11 := Bool.eq_false_iff.mpr c11
    subst c11
    rw [if_neg (show ¬ (false = true) by decide)] at H
    replace H := Option.bind_eq_some_iff.mp H
    obtain ⟨t1757, A120, H⟩ := H
    try dsimp only at H
    have A12 := Aside0.mk A120
    clear A120
    have H' := Aside0.mk H
    clear H
    go_wp2_with (first | ((with_reducible refine gate_callee (f := 21) rfl ?_); refine goesL_ (some 23) rfl rfl Try.func21 (by kernel_rfl) rfl #[.slice A0 l0.length c0, .int .i64 a1] rfl (by (try simp only [List.map_toArray, List.map_cons, List.map_nil]); first | done | rfl | (simp only [List.length_drop, List.length_take]; rfl)) ?_; (with_reducible refine (impl_VoiceOf.calls _ _ l0 a1 t1757 _ ?side1 ?side2 A12.out).mono ?_); (case side1 => repeat (first | exact (Kd.C_below HR0.out HB.out) | (with_reducible refine Kd.C_alloc ?_ _) | (with_reducible refine Kd.C_drewN ?_ _) | (with_reducible refine Kd.C_drew ?_))); (case side2 => exact HC0.out); rintro e w13 ⟨v1758, rfl, ho0, hb⟩; refine ⟨_, rfl, ?_⟩; have n0_ := Aside0.mk (Kd.R_below (by (with_reducible repeat (first | apply Kd.R_alloc | apply Kd.R_drewN | apply Kd.R_drew)); exact HO_8.out) hb); have n1_ := Aside0.mk (Kd.R_lower ho0 (below_size (by repeat (first | (with_reducible first | exact HB.out | apply below_alloc | apply pw_below_drewN | apply below_drew1) | exact HB.out)))); have n2_ := Aside0.mk (below_step (by repeat (first | (with_reducible first | exact HB.out | apply below_alloc | apply pw_below_drewN | apply below_drew1) | exact HB.out)) hb); clear HO_8; clear HB; have HO_8 := n0_; have HO1759 := n1_; have HB := n2_; clear n0_ n1_ n2_; (try clear hb); (try clear hb2); (try clear hk); (try clear hi); (try clear ho0); obtain ⟨Ao14, co14, eo14⟩ := Kd.R_slice HO1759.out; subst eo14))
    go_loopg [8, 9, 25] kj3 (fun kq v8 v9 v25 w' => ∃ (x8_2 : List (S111)) (x9_2 : Int) (x25_2 : Int), v9 = .int .i64 x9_2 ∧ v25 = .int .i64 x25_2 ∧ Aside0 (impl_PartFrom.l0 kq a2 x8_2 x9_2 t1757 (t1757.length : Int) x25_2 = some (r1, r2)) ∧ Aside0 (kq ≤ kj3) ∧ Aside0 (Kd.R k111 111 w' w.heap.size (fun _ => True) v8 x8_2) ∧ Aside0 (Kd.R k26 26 w' w.heap.size (fun _ => True) (.slice Ao14 t1757.length co14) t1757) ∧ Aside0 (Below w.heap.size w w'))
    case atStart => exact ⟨(y1753), (0), (0), (by first | rfl | (simp; done) | (simp [*]; done)), (by first | rfl | (simp; done) | (simp [*]; done)), H', ⟨Nat.le_refl _⟩, ⟨by (with_reducible repeat (first | apply Kd.R_alloc | apply Kd.R_drewN | apply Kd.R_drew)); exact HO_8.out⟩, ⟨by (with_reducible repeat (first | apply Kd.R_alloc | apply Kd.R_drewN | apply Kd.R_drew)); exact HO1759.out⟩, ⟨by repeat (first | (with_reducible first | exact HB.out | apply below_alloc | apply pw_below_drewN | apply below_drew1) | exact HB.out)⟩⟩
    case round =>
     clear H'
     try clear c1
     try clear c2
     try clear p2
     try clear c6
     try clear c8
     try clear c11
     try clear c14
     try clear p2
     obtain ⟨x8_2, x9_2, x25_2, rfl, rfl, HA, HK2, HO_8, HO_23, HB⟩ := hrel
     cases gk with
     | zero => exact absurd HA.out (by simp [impl_PartFrom.l0])
     | succ k2 =>
      have H := HA.out
      clear HA
      simp only [impl_PartFrom.l0] at H
      by_cases c15 : x25_2 < (t1757.length : Int)
      ·
       rw [if_pos c15] at H
       have c15b0 : decide (x25_2 < (t1757.length : Int)) = true := decide_eq_true c15
       clear c15
       by_cases c16 : 0 ≤ x25_2
       ·
        rw [if_pos c16] at H
        have c16b0 : decide (0 ≤ x25_2) = true := decide_eq_true c16
        clear c16
        by_cases c17 : x25_2 < (t1757.length : Int)
        ·
         rw [if_pos c17] at H
         have c17b0 : decide (x25_2 < (t1757.length : Int)) = true := decide_eq_true c17
         clear c17
         by_cases c18 : ((rd_T26 t1757 x25_2).f0) < x9_2
         ·
          rw [if_pos c18] at H
          have c18b0 : decide (((rd_T26 t1757 x25_2).f0) < x9_2) = true := decide_eq_true c18
          clear c18
          obtain ⟨y1762, hy1762⟩ : ∃ y_ : List (S111), y_ = (([] : List (S111))) := ⟨_, rfl⟩
          replace H : (some (y1762, false)) = some (r1, r2) := by first | (rw [hy1762]; with_reducible exact H) | (have H2_ := (Option.bind_some _ _).symm.trans H; rw [hy1762]; with_reducible exact H2_) | (have H2_ := (Option.bind_some _ _).symm.trans H; with_reducible exact H2_) | with_reducible exact H | (rw [hy1762]; exact H) | exact H
          have Ny1762 := Aside0.mk hy1762
          clear hy1762
          simp only [Option.some.injEq, Prod.mk.injEq] at H
          obtain ⟨rfl, rfl⟩ := H
          have p1760 : 0 ≤ (x25_2 : Int) := of_decide_eq_true (by first | (with_reducible assumption) | assumption)
          have q1760 : x25_2 < (t1757.length : Int) := of_decide_eq_true (by first | (with_reducible assumption) | assumption)
          obtain ⟨ad1760, e1760, hx1760_0, hx1760_1, hx1760_2, hx1760_3⟩ := at_T26 (Kd.R_reads' HO_23.out).2.2 x25_2 p1760 q1760
          cases e1760
          replace p1760 := eq_true p1760
          replace q1760 := eq_true q1760
          go_wp2_with (first | ((with_reducible refine gate_dst (N := 11) rfl ?_); refine box_event ?hg (N := 11) ?hd (cs := #[.int .i64 0, .int .i64 0, .int .i64 0, .int .i64 0]) (t := 26) ?hr ?_; (case hd => rfl); (case hg => rfl); (case hr => first | (go_simp; done) | (go_simp; rfl)); intro gb1761 hg w19 hbox hb; have n0_ := Aside0.mk (Kd.R_below (by (with_reducible repeat (first | apply Kd.R_alloc | apply Kd.R_drewN | apply Kd.R_drew)); exact HO_8.out) hb); have n1_ := Aside0.mk (Kd.R_below (Kd.R_elderB (by (with_reducible repeat (first | apply Kd.R_alloc | apply Kd.R_drewN | apply Kd.R_drew)); exact HO_23.out) gb1761 (Nat.le_of_eq hg.symm)) hb); have n2_ := Aside0.mk (below_step (by repeat (first | (with_reducible first | exact HB.out | apply below_alloc | apply pw_below_drewN | apply below_drew1) | exact HB.out)) hb); have n3_ := Aside0.mk (hbox); have n4_ := Aside0.mk ((by rw [hg]; exact (below_size (by repeat (first | (with_reducible first | exact HB.out | apply below_alloc | apply pw_below_drewN | apply below_drew1) | exact HB.out))) : w.heap.size ≤ gb1761)); have n5_ := Aside0.mk ((by rw [hg]; exact (below_size (by repeat (first | (with_reducible first | exact HB.out | apply below_alloc | apply pw_below_drewN | apply below_drew1) | exact HB.out))) : w.heap.size ≤ gb1761)); clear HO_8; clear HO_23; clear HB; have HO_8 := n0_; have HO_23 := n1_; have HB := n2_; have BK1761 := n3_; have GW1761 := n4_; have GE1761 := n5_; clear n0_ n1_ n2_ n3_ n4_ n5_; clear hb hbox hg; have hcz20_0 : w19.cell? ⟨gb1761, 0, none⟩ = some (.int .i64 0) := (blk_cell BK1761.out 0).trans rfl; have hcz20_1 : w19.cell? ⟨gb1761, 1, none⟩ = some (.int .i64 0) := (blk_cell BK1761.out 1).trans rfl; have hcz20_2 : w19.cell? ⟨gb1761, 2, none⟩ = some (.int .i64 0) := (blk_cell BK1761.out 2).trans rfl; have hcz20_3 : w19.cell? ⟨gb1761, 3, none⟩ = some (.int .i64 0) := (blk_cell BK1761.out 3).trans rfl; have hfz20_0 := blk_frozen BK1761.out 0; have hfz20_1 := blk_frozen BK1761.out 1; have hfz20_2 := blk_frozen BK1761.out 2; have hfz20_3 := blk_frozen BK1761.out 3) | ((with_reducible refine gate_dst (N := 33) rfl ?_); refine Kd.R_lit k111 _ 111 ?hg (N := 33) ?hd (xs := ([] : List (S111))) (inner := []) (ok := fun _ => True) (okp := fun _ => True) ?hr ?hp (fun _ hk => hk) trivial (Below.refl _ _) (Nat.le_refl _) (by simp) ?_; (case hd => rfl); (case hg => rfl); (case hr => first | (go_simp; done) | (go_simp; rfl)); (case hp => exact (Reps.none _ _)); intro v1763 w21 ho22 hb hg_ hnew_; clear hg_ hnew_; (first | rw [← Ny1762.out] at ho22 | (simp only [Int.reduceToNat] at ho22; rw [← Ny1762.out] at ho22)); have n0_ := Aside0.mk (Kd.R_elder' (by (with_reducible repeat (first | apply Kd.R_alloc | apply Kd.R_drewN | apply Kd.R_drew)); exact (Kd.R_mono (Kd.R_far (p := ⟨gb1761, 3, none⟩) (Kd.R_far (p := ⟨gb1761, 2, none⟩) (Kd.R_far (p := ⟨gb1761, 1, none⟩) (Kd.R_far (p := ⟨gb1761, 0, none⟩) (Kd.R_types HO_8.out BK1761.out (by decide)) (fun _ hk => hk.2) (.int .i64 ((rd_T26 t1757 x25_2).f0))) (fun _ hk => hk.2) (.int .i64 ((rd_T26 t1757 x25_2).f1))) (fun _ hk => hk.2) (.int .i64 ((rd_T26 t1757 x25_2).f2))) (fun _ hk => hk.2) (.int .i64 ((rd_T26 t1757 x25_2).f3))) (fun _ h_ => h_.1))) (Kd.R_base ho22) hb); have n1_ := Aside0.mk (Kd.R_below (by (with_reducible repeat (first | apply Kd.R_alloc | apply Kd.R_drewN | apply Kd.R_drew)); exact (Kd.R_mono (Kd.R_far (p := ⟨gb1761, 3, none⟩) (Kd.R_far (p := ⟨gb1761, 2, none⟩) (Kd.R_far (p := ⟨gb1761, 1, none⟩) (Kd.R_far (p := ⟨gb1761, 0, none⟩) (Kd.R_mono HO_23.out (fun k_ hk => (⟨hk, hk.2⟩ : _ ∧ k_ ≠ gb1761))) (fun _ hk => hk.2) (.int .i64 ((rd_T26 t1757 x25_2).f0))) (fun _ hk => hk.2) (.int .i64 ((rd_T26 t1757 x25_2).f1))) (fun _ hk => hk.2) (.int .i64 ((rd_T26 t1757 x25_2).f2))) (fun _ hk => hk.2) (.int .i64 ((rd_T26 t1757 x25_2).f3))) (fun _ h_ => h_.1))) hb); have n2_ := Aside0.mk (Kd.R_lower (Kd.R_new' ho22 (Kd.R_lt (by (with_reducible repeat (first | apply Kd.R_alloc | apply Kd.R_drewN | apply Kd.R_drew)); exact (Kd.R_mono (Kd.R_far (p := ⟨gb1761, 3, none⟩) (Kd.R_far (p := ⟨gb1761, 2, none⟩) (Kd.R_far (p := ⟨gb1761, 1, none⟩) (Kd.R_far (p := ⟨gb1761, 0, none⟩) (Kd.R_types HO_8.out BK1761.out (by decide)) (fun _ hk => hk.2) (.int .i64 ((rd_T26 t1757 x25_2).f0))) (fun _ hk => hk.2) (.int .i64 ((rd_T26 t1757 x25_2).f1))) (fun _ hk => hk.2) (.int .i64 ((rd_T26 t1757 x25_2).f2))) (fun _ hk => hk.2) (.int .i64 ((rd_T26 t1757 x25_2).f3))) (fun _ h_ => h_.1))))) (below_size (by repeat (first | (with_reducible first | exact HB.out | apply below_alloc | apply pw_below_drewN | apply below_drew1 | refine below_set ?_ GE1761.out) | exact HB.out)))); have n3_ := Aside0.mk (blk_below (g := gb1761) (o := .cells #[.int .i64 ((rd_T26 t1757 x25_2).f0), .int .i64 ((rd_T26 t1757 x25_2).f1), .int .i64 ((rd_T26 t1757 x25_2).f2), .int .i64 ((rd_T26 t1757 x25_2).f3)] 26 (0, 0)) (by (with_reducible repeat (first | refine blk_drewN ?_ _ | refine blk_drew ?_ | refine blk_alloc ?_ _)); refine blk_put (cs := #[.int .i64 ((rd_T26 t1757 x25_2).f0), .int .i64 ((rd_T26 t1757 x25_2).f1), .int .i64 ((rd_T26 t1757 x25_2).f2), .int .i64 0]) ?_ 3 _ rfl; (with_reducible repeat (first | refine blk_drewN ?_ _ | refine blk_drew ?_ | refine blk_alloc ?_ _)); refine blk_put (cs := #[.int .i64 ((rd_T26 t1757 x25_2).f0), .int .i64 ((rd_T26 t1757 x25_2).f1), .int .i64 0, .int .i64 0]) ?_ 2 _ rfl; (with_reducible repeat (first | refine blk_drewN ?_ _ | refine blk_drew ?_ | refine blk_alloc ?_ _)); refine blk_put (cs := #[.int .i64 ((rd_T26 t1757 x25_2).f0), .int .i64 0, .int .i64 0, .int .i64 0]) ?_ 1 _ rfl; (with_reducible repeat (first | refine blk_drewN ?_ _ | refine blk_drew ?_ | refine blk_alloc ?_ _)); refine blk_put (cs := #[.int .i64 0, .int .i64 0, .int .i64 0, .int .i64 0]) ?_ 0 _ rfl; (with_reducible repeat (first | refine blk_drewN ?_ _ | refine blk_drew ?_ | refine blk_alloc ?_ _)); exact BK1761.out) hb); have n4_ := Aside0.mk (below_step (by repeat (first | (with_reducible first | exact HB.out | apply below_alloc | apply pw_below_drewN | apply below_drew1 | refine below_set ?_ GE1761.out) | exact HB.out)) hb); clear HO_8; clear HO_23; clear BK1761; clear HB; have HO_8 := n0_; have HO_23 := n1_; have HO1764 := n2_; have BK1761 := n3_; have HB := n4_; clear n0_ n1_ n2_ n3_ n4_; clear hb ho22))
          go_ret2
          exact ⟨_, by first | rfl | (simp [errW_none, errW_some] <;> rfl) | (simp [*, errW_none, errW_some] <;> rfl), by (with_reducible repeat (first | apply Kd.R_alloc | apply Kd.R_drewN | apply Kd.R_drew)); exact Kd.R_mono HO1764.out (fun _ hk => trivial), by repeat (first | (with_reducible first | exact HB.out | apply below_alloc | apply pw_below_drewN | apply below_drew1 | refine below_set ?_ GE1761.out) | exact HB.out)⟩
         ·
          rw [if_neg c18] at H
          have c18b0 : decide (((rd_T26 t1757 x25_2).f0) < x9_2) = false := decide_eq_false c18
          clear c18
          by_cases c23 : ((rd_T26 t1757 x25_2).f0) > x9_2
          ·
           rw [if_pos c23] at H
           have c23b0 : decide (x9_2 < ((rd_T26 t1757 x25_2).f0)) = true := decide_eq_true c23
           clear c23
           by_cases c24 : x8_2.length < 5864062014805
           ·
            rw [if_pos c24] at H
            have LMc24 := Aside0.mk c24
            clear c24
            obtain ⟨y1765, hy1765⟩ : ∃ y_ : List (S111), y_ = (x8_2 ++ [(⟨x9_2, wrap64 (((rd_T26 t1757 x25_2).f0) - x9_2), 0⟩ : S111)]) := ⟨_, rfl⟩
            replace H : (if y1765.length < 5864062014805 then (impl_PartFrom.l0 k2 a2 (y1765 ++ [(⟨(rd_T26 t1757 x25_2).f0, (rd_T26 t1757 x25_2).f1, (rd_T26 t1757 x25_2).f2⟩ : S111)]) (wrap64 (((rd_T26 t1757 x25_2).f0) + ((rd_T26 t1757 x25_2).f1))) t1757 (t1757.length : Int) (wrap64 (x25_2 + 1))) else (none)) = some (r1, r2) := by first | (rw [hy1765]; with_reducible exact H) | (have H2_ := (Option.bind_some _ _).symm.trans H; rw [hy1765]; with_reducible exact H2_) | (have H2_ := (Option.bind_some _ _).symm.trans H; with_reducible exact H2_) | with_reducible exact H | (rw [hy1765]; exact H) | exact H
            have Ny1765 := Aside0.mk hy1765
            clear hy1765
            by_cases c25 : y1765.length < 5864062014805
            ·
             rw [if_pos c25] at H
             have LMc25 := Aside0.mk c25
             clear c25
             obtain ⟨y1768, hy1768⟩ : ∃ y_ : List (S111), y_ = (y1765 ++ [(⟨(rd_T26 t1757 x25_2).f0, (rd_T26 t1757 x25_2).f1, (rd_T26 t1757 x25_2).f2⟩ : S111)]) := ⟨_, rfl⟩
             replace H : (impl_PartFrom.l0 k2 a2 y1768 (wrap64 (((rd_T26 t1757 x25_2).f0) + ((rd_T26 t1757 x25_2).f1))) t1757 (t1757.length : Int) (wrap64 (x25_2 + 1))) = some (r1, r2) := by first | (rw [hy1768]; with_reducible exact H) | (have H2_ := (Option.bind_some _ _).symm.trans H; rw [hy1768]; with_reducible exact H2_) | (have H2_ := (Option.bind_some _ _).symm.trans H; with_reducible exact H2_) | with_reducible exact H | (rw [hy1768]; exact H) | exact H
             have Ny1768 := Aside0.mk hy1768
             clear hy1768
             have H' := Aside0.mk H
             clear H
             have p1760 : 0 ≤ (x25_2 : Int) := of_decide_eq_true (by first | (with_reducible assumption) | assumption)
             have q1760 : x25_2 < (t1757.length : Int) := of_decide_eq_true (by first | (with_reducible assumption) | assumption)
             obtain ⟨ad1760, e1760, hx1760_0, hx1760_1, hx1760_2, hx1760_3⟩ := at_T26 (Kd.R_reads' HO_23.out).2.2 x25_2 p1760 q1760
             cases e1760
             replace p1760 := eq_true p1760
             replace q1760 := eq_true q1760
             try go_wp2_with (first | ((with_reducible refine gate_dst (N := 11) rfl ?_); refine box_event ?hg (N := 11) ?hd (cs := #[.int .i64 0, .int .i64 0, .int .i64 0, .int .i64 0]) (t := 26) ?hr ?_; (case hd => rfl); (case hg => rfl); (case hr => first | (go_simp; done) | (go_simp; rfl)); intro gb1761 hg w26 hbox hb; have n0_ := Aside0.mk (Kd.R_below (by (with_reducible repeat (first | apply Kd.R_alloc | apply Kd.R_drewN | apply Kd.R_drew)); exact HO_8.out) hb); have n1_ := Aside0.mk (Kd.R_below (Kd.R_elderB (by (with_reducible repeat (first | apply Kd.R_alloc | apply Kd.R_drewN | apply Kd.R_drew)); exact HO_23.out) gb1761 (Nat.le_of_eq hg.symm)) hb); have n2_ := Aside0.mk (below_step (by repeat (first | (with_reducible first | exact HB.out | apply below_alloc | apply pw_below_drewN | apply below_drew1) | exact HB.out)) hb); have n3_ := Aside0.mk (hbox); have n4_ := Aside0.mk ((by rw [hg]; exact (below_size (by repeat (first | (with_reducible first | exact HB.out | apply below_alloc | apply pw_below_drewN | apply below_drew1) | exact HB.out))) : w.heap.size ≤ gb1761)); have n5_ := Aside0.mk ((by rw [hg]; exact (below_size (by repeat (first | (with_reducible first | exact HB.out | apply below_alloc | apply pw_below_drewN | apply below_drew1) | exact HB.out))) : w.heap.size ≤ gb1761)); clear HO_8; clear HO_23; clear HB; have HO_8 := n0_; have HO_23 := n1_; have HB := n2_; have BK1761 := n3_; have GW1761 := n4_; have GE1761 := n5_; clear n0_ n1_ n2_ n3_ n4_ n5_; clear hb hbox hg; have hcz27_0 : w26.cell? ⟨gb1761, 0, none⟩ = some (.int .i64 0) := (blk_cell BK1761.out 0).trans rfl; have hcz27_1 : w26.cell? ⟨gb1761, 1, none⟩ = some (.int .i64 0) := (blk_cell BK1761.out 1).trans rfl; have hcz27_2 : w26.cell? ⟨gb1761, 2, none⟩ = some (.int .i64 0) := (blk_cell BK1761.out 2).trans rfl; have hcz27_3 : w26.cell? ⟨gb1761, 3, none⟩ = some (.int .i64 0) := (blk_cell BK1761.out 3).trans rfl; have hfz27_0 := blk_frozen BK1761.out 0; have hfz27_1 := blk_frozen BK1761.out 1; have hfz27_2 := blk_frozen BK1761.out 2; have hfz27_3 := blk_frozen BK1761.out 3) | ((with_reducible refine gate_builtin (b := .append) (xs := #[.tmp 38, .tmp 45]) rfl ?_); at_builtin; refine Kd.R_append k111 (w0 := w) w.heap.size rfl (.tmp 38) (.tmp 45) 107 111 (.agg #[(.int .i64 0), (.int .i64 0), (.int .i64 0)]) 24 rfl Try.underlying107 info111 rfl (by decide) (by omega) u8 x8_2 (⟨x9_2, wrap64 (((rd_T26 t1757 x25_2).f0) - x9_2), 0⟩ : S111) [.int .i64 x9_2, .int .i64 (wrap64 (((rd_T26 t1757 x25_2).f0) - x9_2)), .int .i64 0] (fun _ => True) (fun _ => False) rfl (by first | (go_simp; done) | (go_simp; rfl)) ?aP (fun _ hk => hk.elim) ?aF ?aO ?aB ?aS ?aL ?_; (case aP => exact k111_mkM _ _ _ (⟨x9_2, wrap64 (((rd_T26 t1757 x25_2).f0) - x9_2), 0⟩ : S111)); (case aB => exact (by repeat (first | (with_reducible first | exact HB.out | apply below_alloc | apply pw_below_drewN | apply below_drew1 | refine below_set ?_ GE1761.out) | exact HB.out))); (case aF => exact (fun _ _ => trivial)); (case aO => exact (by (with_reducible repeat (first | apply Kd.R_alloc | apply Kd.R_drewN | apply Kd.R_drew)); exact Kd.R_mono (Kd.R_far (p := ⟨gb1761, 3, none⟩) (Kd.R_far (p := ⟨gb1761, 2, none⟩) (Kd.R_far (p := ⟨gb1761, 1, none⟩) (Kd.R_far (p := ⟨gb1761, 0, none⟩) (Kd.R_types HO_8.out BK1761.out (by decide)) (fun _ hk => hk.2) (.int .i64 ((rd_T26 t1757 x25_2).f0))) (fun _ hk => hk.2) (.int .i64 ((rd_T26 t1757 x25_2).f1))) (fun _ hk => hk.2) (.int .i64 ((rd_T26 t1757 x25_2).f2))) (fun _ hk => hk.2) (.int .i64 ((rd_T26 t1757 x25_2).f3))) (fun _ hk => trivial))); (case aS => exact (below_size (by repeat (first | (with_reducible first | exact HB.out | apply below_alloc | apply pw_below_drewN | apply below_drew1 | refine below_set ?_ GE1761.out) | exact HB.out)))); (case aL => have := LMc24.out; omega); intro v1766 w28 ho hb hg hat; rw [← Ny1765.out] at ho; have n0_ := Aside0.mk (Kd.R_over' (by (with_reducible repeat (first | apply Kd.R_alloc | apply Kd.R_drewN | apply Kd.R_drew)); exact (Kd.R_mono (Kd.R_far (p := ⟨gb1761, 3, none⟩) (Kd.R_far (p := ⟨gb1761, 2, none⟩) (Kd.R_far (p := ⟨gb1761, 1, none⟩) (Kd.R_far (p := ⟨gb1761, 0, none⟩) (Kd.R_mono HO_23.out (fun k_ hk => (⟨hk, hk.2⟩ : _ ∧ k_ ≠ gb1761))) (fun _ hk => hk.2) (.int .i64 ((rd_T26 t1757 x25_2).f0))) (fun _ hk => hk.2) (.int .i64 ((rd_T26 t1757 x25_2).f1))) (fun _ hk => hk.2) (.int .i64 ((rd_T26 t1757 x25_2).f2))) (fun _ hk => hk.2) (.int .i64 ((rd_T26 t1757 x25_2).f3))) (fun _ h_ => h_.1))) (Kd.R_typed (by (with_reducible repeat (first | apply Kd.R_alloc | apply Kd.R_drewN | apply Kd.R_drew)); exact (Kd.R_mono (Kd.R_far (p := ⟨gb1761, 3, none⟩) (Kd.R_far (p := ⟨gb1761, 2, none⟩) (Kd.R_far (p := ⟨gb1761, 1, none⟩) (Kd.R_far (p := ⟨gb1761, 0, none⟩) (Kd.R_types HO_8.out BK1761.out (by decide)) (fun _ hk => hk.2) (.int .i64 ((rd_T26 t1757 x25_2).f0))) (fun _ hk => hk.2) (.int .i64 ((rd_T26 t1757 x25_2).f1))) (fun _ hk => hk.2) (.int .i64 ((rd_T26 t1757 x25_2).f2))) (fun _ hk => hk.2) (.int .i64 ((rd_T26 t1757 x25_2).f3))) (fun _ h_ => h_.1)))) (by decide) hg); have n1_ := Aside0.mk (blk_grown (g := gb1761) (o := .cells #[.int .i64 ((rd_T26 t1757 x25_2).f0), .int .i64 ((rd_T26 t1757 x25_2).f1), .int .i64 ((rd_T26 t1757 x25_2).f2), .int .i64 ((rd_T26 t1757 x25_2).f3)] 26 (0, 0)) (by (with_reducible repeat (first | refine blk_drewN ?_ _ | refine blk_drew ?_ | refine blk_alloc ?_ _)); refine blk_put (cs := #[.int .i64 ((rd_T26 t1757 x25_2).f0), .int .i64 ((rd_T26 t1757 x25_2).f1), .int .i64 ((rd_T26 t1757 x25_2).f2), .int .i64 0]) ?_ 3 _ rfl; (with_reducible repeat (first | refine blk_drewN ?_ _ | refine blk_drew ?_ | refine blk_alloc ?_ _)); refine blk_put (cs := #[.int .i64 ((rd_T26 t1757 x25_2).f0), .int .i64 ((rd_T26 t1757 x25_2).f1), .int .i64 0, .int .i64 0]) ?_ 2 _ rfl; (with_reducible repeat (first | refine blk_drewN ?_ _ | refine blk_drew ?_ | refine blk_alloc ?_ _)); refine blk_put (cs := #[.int .i64 ((rd_T26 t1757 x25_2).f0), .int .i64 0, .int .i64 0, .int .i64 0]) ?_ 1 _ rfl; (with_reducible repeat (first | refine blk_drewN ?_ _ | refine blk_drew ?_ | refine blk_alloc ?_ _)); refine blk_put (cs := #[.int .i64 0, .int .i64 0, .int .i64 0, .int .i64 0]) ?_ 0 _ rfl; (with_reducible repeat (first | refine blk_drewN ?_ _ | refine blk_drew ?_ | refine blk_alloc ?_ _)); exact BK1761.out) hg (Kd.R_ne HO_8.out BK1761.out (by decide))); have n2_ := Aside0.mk (hb); have n3_ := Aside0.mk (ho); clear HO_23; clear BK1761; clear HB; clear HO_8; have HO_23 := n0_; have BK1761 := n1_; have HB := n2_; have HO1767 := n3_; clear n0_ n1_ n2_ n3_; clear ho hb hg hat))
             have n0_ := Aside0.mk (Kd.R_drew HO_23.out)
             have n1_ := Aside0.mk (Kd.R_drew HO1767.out)
             have n2_ := Aside0.mk (blk_drew BK1761.out)
             have n3_ := Aside0.mk (below_drew1 HB.out)
             clear HO_23
             clear HO1767
             clear BK1761
             clear HB
             have HO_23 := n0_
             have HO1767 := n1_
             have BK1761 := n2_
             have HB := n3_
             clear n0_ n1_ n2_ n3_
             refine start_ (n := 17) (S := fun w' => w'.cell? ⟨gb1761, 0, none⟩ = some (.int .i64 ((rd_T26 t1757 x25_2).f0)) ∧ w'.cell? ⟨gb1761, 1, none⟩ = some (.int .i64 ((rd_T26 t1757 x25_2).f1)) ∧ w'.cell? ⟨gb1761, 2, none⟩ = some (.int .i64 ((rd_T26 t1757 x25_2).f2)) ∧ w'.cell? ⟨gb1761, 3, none⟩ = some (.int .i64 ((rd_T26 t1757 x25_2).f3))) (ds := []) #[false, false, false, false, false, false, false, false, false, false, false, false, false, false, false, false, false] (by kernel_rfl) rfl rfl ⟨(blk_cell BK1761.out 0).trans rfl, (blk_cell BK1761.out 1).trans rfl, (blk_cell BK1761.out 2).trans rfl, (blk_cell BK1761.out 3).trans rfl⟩ (fun hHeld => ?_); refine with_tabW impl_PartFrom.tab11 impl_PartFrom.bits11 (fun HT_ HW_ => ?_)
             generalize w28.drew = w29 at HO_23 HO1767 BK1761 HB hHeld ⊢
             refine pure_ (i := 0) (N := some 47) (v := ?_) (a' := ?_) #[true, false, false, false, false, false, false, false, false, false, false, false, false, false, false, false, false] rfl rfl (any_of HT_.out (by kernel_rfl)) (fun _ _ _ h => h) (Or.inl ⟨by rfl, ?_⟩) ?_ ?_
             rotate_left
             ·
              intro w'
              go_simp
              with_reducible rfl
             rotate_left
             ·
              simp only [Act.put, List.setIfInBounds_toArray, List.set_cons_zero, List.set_cons_succ, i64_w, i32_w]
              rfl
             refine pure_ (i := 1) (N := some 48) (v := ?_) (a' := ?_) #[true, true, false, false, false, false, false, false, false, false, false, false, false, false, false, false, false] rfl rfl (any_of HT_.out (by kernel_rfl)) (fun _ _ _ h => h) (Or.inl ⟨by rfl, ?_⟩) ?_ ?_
             rotate_left
             ·
              intro w'
              go_simp
              with_reducible rfl
             rotate_left
             ·
              simp only [Act.put, List.setIfInBounds_toArray, List.set_cons_zero, List.set_cons_succ, i64_w, i32_w]
              rfl
             refine pure_ (i := 3) (N := some 50) (v := ?_) (a' := ?_) #[true, true, false, true, false, false, false, false, false, false, false, false, false, false, false, false, false] rfl rfl (any_of HT_.out (by kernel_rfl)) (fun _ _ _ h => h) (Or.inl ⟨by rfl, ?_⟩) ?_ ?_
             rotate_left
             ·
              intro w'
              go_simp
              with_reducible rfl
             rotate_left
             ·
              simp only [Act.put, List.setIfInBounds_toArray, List.set_cons_zero, List.set_cons_succ, i64_w, i32_w]
              rfl
             refine pure_ (i := 5) (N := some 52) (v := ?_) (a' := ?_) #[true, true, false, true, false, true, false, false, false, false, false, false, false, false, false, false, false] rfl rfl (any_of HT_.out (by kernel_rfl)) (fun _ _ _ h => h) (Or.inl ⟨by rfl, ?_⟩) ?_ ?_
             rotate_left
             ·
              intro w'
              go_simp
              with_reducible rfl
             rotate_left
             ·
              simp only [Act.put, List.setIfInBounds_toArray, List.set_cons_zero, List.set_cons_succ, i64_w, i32_w]
              rfl
             refine pure_ (i := 10) (N := some 57) (v := ?_) (a' := ?_) #[true, true, false, true, false, true, false, false, false, false, true, false, false, false, false, false, false] rfl rfl (any_of HT_.out (by kernel_rfl)) (fun _ _ _ h => h) (Or.inl ⟨by rfl, ?_⟩) ?_ ?_
             rotate_left
             ·
              intro w'
              go_simp
              with_reducible rfl
             rotate_left
             ·
              simp only [Act.put, List.setIfInBounds_toArray, List.set_cons_zero, List.set_cons_succ, i64_w, i32_w]
              rfl
             refine pure_ (i := 12) (N := some 59) (v := ?_) (a' := ?_) #[true, true, false, true, false, true, false, false, false, false, true, false, true, false, false, false, false] rfl rfl (any_of HT_.out (by kernel_rfl)) (fun _ _ _ h => h) (Or.inl ⟨by rfl, ?_⟩) ?_ ?_
             rotate_left
             ·
              intro w'
              go_simp
              with_reducible rfl
             rotate_left
             ·
              simp only [Act.put, List.setIfInBounds_toArray, List.set_cons_zero, List.set_cons_succ, i64_w, i32_w]
              rfl
             refine take_ (i := 2) (N := some 49) (v := ?_) (a' := ?_) #[true, true, true, true, false, true, false, false, false, false, true, false, true, false, false, false, false] rfl rfl (take_ofW HT_.out HW_.out (by kernel_rfl)) (fun _ _ _ h => h) (Or.inl ⟨by rfl, ?_⟩) hHeld ?_ ?_
             rotate_left
             ·
              rintro w' ⟨s0, s1, s2, s3⟩
              go_simp
              with_reducible rfl
             rotate_left
             ·
              simp only [Act.put, List.setIfInBounds_toArray, List.set_cons_zero, List.set_cons_succ, i64_w, i32_w]
              rfl
             refine take_ (i := 4) (N := some 51) (v := ?_) (a' := ?_) #[true, true, true, true, true, true, false, false, false, false, true, false, true, false, false, false, false] rfl rfl (take_ofW HT_.out HW_.out (by kernel_rfl)) (fun _ _ _ h => h) (Or.inl ⟨by rfl, ?_⟩) hHeld ?_ ?_
             rotate_left
             ·
              rintro w' ⟨s0, s1, s2, s3⟩
              go_simp
              with_reducible rfl
             rotate_left
             ·
              simp only [Act.put, List.setIfInBounds_toArray, List.set_cons_zero, List.set_cons_succ, i64_w, i32_w]
              rfl
             refine take_ (i := 6) (N := some 53) (v := ?_) (a' := ?_) #[true, true, true, true, true, true, true, false, false, false, true, false, true, false, false, false, false] rfl rfl (take_ofW HT_.out HW_.out (by kernel_rfl)) (fun _ _ _ h => h) (Or.inl ⟨by rfl, ?_⟩) hHeld ?_ ?_
             rotate_left
             ·
              rintro w' ⟨s0, s1, s2, s3⟩
              go_simp
              with_reducible rfl
             rotate_left
             ·
              simp only [Act.put, List.setIfInBounds_toArray, List.set_cons_zero, List.set_cons_succ, i64_w, i32_w]
              rfl
             refine pure_ (i := 7) (N := some 54) (v := ?_) (a' := ?_) #[true, true, true, true, true, true, true, true, false, false, true, false, true, false, false, false, false] rfl rfl (any_of HT_.out (by kernel_rfl)) (fun _ _ _ h => h) (Or.inl ⟨by rfl, ?_⟩) ?_ ?_
             rotate_left
             ·
              intro w'
              go_simp
              with_reducible rfl
             rotate_left
             ·
              simp only [Act.put, List.setIfInBounds_toArray, List.set_cons_zero, List.set_cons_succ, i64_w, i32_w]
              rfl
             refine take_ (i := 11) (N := some 58) (v := ?_) (a' := ?_) #[true, true, true, true, true, true, true, true, false, false, true, true, true, false, false, false, false] rfl rfl (take_ofW HT_.out HW_.out (by kernel_rfl)) (fun _ _ _ h => h) (Or.inl ⟨by rfl, ?_⟩) hHeld ?_ ?_
             rotate_left
             ·
              rintro w' ⟨s0, s1, s2, s3⟩
              go_simp
              with_reducible rfl
             rotate_left
             ·
              simp only [Act.put, List.setIfInBounds_toArray, List.set_cons_zero, List.set_cons_succ, i64_w, i32_w]
              rfl
             refine take_ (i := 13) (N := some 60) (v := ?_) (a' := ?_) #[true, true, true, true, true, true, true, true, false, false, true, true, true, true, false, false, false] rfl rfl (take_ofW HT_.out HW_.out (by kernel_rfl)) (fun _ _ _ h => h) (Or.inl ⟨by rfl, ?_⟩) hHeld ?_ ?_
             rotate_left
             ·
              rintro w' ⟨s0, s1, s2, s3⟩
              go_simp
              with_reducible rfl
             rotate_left
             ·
              simp only [Act.put, List.setIfInBounds_toArray, List.set_cons_zero, List.set_cons_succ, i64_w, i32_w]
              rfl
             refine pure_ (i := 14) (N := some 61) (v := ?_) (a' := ?_) #[true, true, true, true, true, true, true, true, false, false, true, true, true, true, true, false, false] rfl rfl (any_of HT_.out (by kernel_rfl)) (fun _ _ _ h => h) (Or.inl ⟨by rfl, ?_⟩) ?_ ?_
             rotate_left
             ·
              intro w'
              go_simp
              with_reducible rfl
             rotate_left
             ·
              simp only [Act.put, List.setIfInBounds_toArray, List.set_cons_zero, List.set_cons_succ, i64_w, i32_w]
              rfl
             refine one_ (i := 8) (N := some 55) #[true, true, true, true, true, true, true, true, true, false, true, true, true, true, true, false, false] rfl rfl (one_of HT_.out (by kernel_rfl)) (by decide) (fun K hK => ?_)
             refine value_ (w1 := ?_) (v := ?_) (by rfl) rfl ?_ ?_
             rotate_left 2
             ·
              go_simp
              constructor
              ·
               rfl
              ·
               rfl
             refine hK.out _ _ ⟨(blk_cell (blk_alloc BK1761.out _) 0).trans rfl, (blk_cell (blk_alloc BK1761.out _) 1).trans rfl, (blk_cell (blk_alloc BK1761.out _) 2).trans rfl, (blk_cell (blk_alloc BK1761.out _) 3).trans rfl⟩ (fun hHeld => ?_)
             clear hK K
             refine norm_ (a' := ?_) ?_ ?_
             rotate_left
             ·
              show Act.put _ (some 55) _ = _
              simp only [Act.put, List.setIfInBounds_toArray, List.set_cons_zero, List.set_cons_succ, i64_w, i32_w]
              rfl
             refine one_ (i := 9) (N := some 56) #[true, true, true, true, true, true, true, true, true, true, true, true, true, true, true, false, false] rfl rfl (one_of HT_.out (by kernel_rfl)) (by decide) (fun K hK => ?_)
             refine Kd.R_append_step k111 (w0 := w) w.heap.size (by rfl) (.tmp 47) (.tmp 55) 107 111 (.agg #[(.int .i64 0), (.int .i64 0), (.int .i64 0)]) 24 rfl Try.underlying107 info111 rfl (by decide) (by omega) v1766 y1765 (⟨(rd_T26 t1757 x25_2).f0, (rd_T26 t1757 x25_2).f1, (rd_T26 t1757 x25_2).f2⟩ : S111) [.int .i64 ((rd_T26 t1757 x25_2).f0), .int .i64 ((rd_T26 t1757 x25_2).f1), .int .i64 ((rd_T26 t1757 x25_2).f2)] (fun _ => True) (fun _ => False) rfl rfl ?aP (fun _ hk => hk.elim) ?aF ?aO ?aB ?aS ?aL ?_
             (case aP => exact k111_mkM _ _ _ (⟨(rd_T26 t1757 x25_2).f0, (rd_T26 t1757 x25_2).f1, (rd_T26 t1757 x25_2).f2⟩ : S111))
             (case aB => exact (by repeat (first | (with_reducible first | exact HB.out | apply below_alloc | apply pw_below_drewN | apply below_drew1 | refine below_set ?_ GE1761.out) | exact HB.out)))
             (case aF => exact (fun _ _ => trivial))
             (case aO => exact (by (with_reducible repeat (first | apply Kd.R_alloc | apply Kd.R_drewN | apply Kd.R_drew)); exact HO1767.out))
             (case aS => exact (below_size (by repeat (first | (with_reducible first | exact HB.out | apply below_alloc | apply pw_below_drewN | apply below_drew1 | refine below_set ?_ GE1761.out) | exact HB.out))))
             (case aL => have := LMc25.out; omega)
             intro v1769 w30 ho hb hg hat
             rw [← Ny1768.out] at ho
             have n0_ := Aside0.mk (Kd.R_over' (by (with_reducible repeat (first | apply Kd.R_alloc | apply Kd.R_drewN | apply Kd.R_drew)); exact HO_23.out) (Kd.R_typed (by (with_reducible repeat (first | apply Kd.R_alloc | apply Kd.R_drewN | apply Kd.R_drew)); exact HO1767.out)) (by decide) hg)
             have n1_ := Aside0.mk (blk_grown (g := gb1761) (o := .cells #[.int .i64 ((rd_T26 t1757 x25_2).f0), .int .i64 ((rd_T26 t1757 x25_2).f1), .int .i64 ((rd_T26 t1757 x25_2).f2), .int .i64 ((rd_T26 t1757 x25_2).f3)] 26 (0, 0)) (by (with_reducible repeat (first | refine blk_drewN ?_ _ | refine blk_drew ?_ | refine blk_alloc ?_ _)); exact BK1761.out) hg (Kd.R_ne HO1767.out BK1761.out (by decide)))
             have n2_ := Aside0.mk (hb)
             have n3_ := Aside0.mk (ho)
             clear HO_23
             clear BK1761
             clear HB
             clear HO1767
             have HO_23 := n0_
             have BK1761 := n1_
             have HB := n2_
             have HO1770 := n3_
             clear n0_ n1_ n2_ n3_
             clear ho hb hg hat
             refine hK.out _ _ ⟨(blk_cell BK1761.out 0).trans rfl, (blk_cell BK1761.out 1).trans rfl, (blk_cell BK1761.out 2).trans rfl, (blk_cell BK1761.out 3).trans rfl⟩ (fun hHeld => ?_)
             clear hK K
             refine norm_ (a' := ?_) ?_ ?_
             rotate_left
             ·
              show Act.put _ (some 56) _ = _
              simp only [Act.put, List.setIfInBounds_toArray, List.set_cons_zero, List.set_cons_succ, i64_w, i32_w]
              rfl
             refine pure_ (i := 15) (N := some 8) (v := ?_) (a' := ?_) #[true, true, true, true, true, true, true, true, true, true, true, true, true, true, true, true, false] rfl rfl (any_of HT_.out (by kernel_rfl)) (fun _ _ _ h => h) (Or.inl ⟨by rfl, ?_⟩) ?_ ?_
             rotate_left
             ·
              intro w'
              go_simp
              with_reducible rfl
             rotate_left
             ·
              simp only [Act.put, List.setIfInBounds_toArray, List.set_cons_zero, List.set_cons_succ, i64_w, i32_w]
              rfl
             refine pure_ (i := 16) (N := some 9) (v := ?_) (a' := ?_) #[true, true, true, true, true, true, true, true, true, true, true, true, true, true, true, true, true] rfl rfl (any_of HT_.out (by kernel_rfl)) (fun _ _ _ h => h) (Or.inl ⟨by rfl, ?_⟩) ?_ ?_
             rotate_left
             ·
              intro w'
              go_simp
              with_reducible rfl
             rotate_left
             ·
              simp only [Act.put, List.setIfInBounds_toArray, List.set_cons_zero, List.set_cons_succ, i64_w, i32_w]
              rfl
             refine done_ (done_of HT_.out (by kernel_rfl)) ?_
             try go_wp2
             go_roundg k2
             case measure => have := HJ3.out; have := HK2.out; omega
             case rel => exact ⟨(y1768), (wrap64 (((rd_T26 t1757 x25_2).f0) + ((rd_T26 t1757 x25_2).f1))), (wrap64 (x25_2 + 1)), (by first | rfl | (simp; done) | (simp [*]; done)), (by first | rfl | (simp; done) | (simp [*]; done)), H', ⟨by have := HJ3.out; have := HK2.out; omega⟩, ⟨by (with_reducible repeat (first | apply Kd.R_alloc | apply Kd.R_drewN | apply Kd.R_drew)); exact HO1770.out⟩, ⟨by (with_reducible repeat (first | apply Kd.R_alloc | apply Kd.R_drewN | apply Kd.R_drew)); exact Kd.R_mono HO_23.out (fun _ hk => trivial)⟩, ⟨by repeat (first | (with_reducible first | exact HB.out | apply below_alloc | apply pw_below_drewN | apply below_drew1 | refine below_set ?_ GE1761.out) | exact HB.out)⟩⟩
            ·
             rw [if_neg c25] at H
             exact absurd H (by simp)
           ·
            rw [if_neg c24] at H
            exact absurd H (by simp)
          ·
           rw [if_neg c23] at H
           have c23b0 : decide (x9_2 < ((rd_T26 t1757 x25_2).f0)) = false := decide_eq_false c23
           clear c23
           by_cases c31 : x8_2.length < 5864062014805
           ·
            rw [if_pos c31] at H
            have LMc31 := Aside0.mk c31
            clear c31
            obtain ⟨y1771, hy1771⟩ : ∃ y_ : List (S111), y_ = (x8_2 ++ [(⟨(rd_T26 t1757 x25_2).f0, (rd_T26 t1757 x25_2).f1, (rd_T26 t1757 x25_2).f2⟩ : S111)]) := ⟨_, rfl⟩
            replace H : (impl_PartFrom.l0 k2 a2 y1771 (wrap64 (((rd_T26 t1757 x25_2).f0) + ((rd_T26 t1757 x25_2).f1))) t1757 (t1757.length : Int) (wrap64 (x25_2 + 1))) = some (r1, r2) := by first | (rw [hy1771]; with_reducible exact H) | (have H2_ := (Option.bind_some _ _).symm.trans H; rw [hy1771]; with_reducible exact H2_) | (have H2_ := (Option.bind_some _ _).symm.trans H; with_reducible exact H2_) | with_reducible exact H | (rw [hy1771]; exact H) | exact H
            have Ny1771 := Aside0.mk hy1771
            clear hy1771
            have H' := Aside0.mk H
            clear H
            have p1760 : 0 ≤ (x25_2 : Int) := of_decide_eq_true (by first | (with_reducible assumption) | assumption)
            have q1760 : x25_2 < (t1757.length : Int) := of_decide_eq_true (by first | (with_reducible assumption) | assumption)
            obtain ⟨ad1760, e1760, hx1760_0, hx1760_1, hx1760_2, hx1760_3⟩ := at_T26 (Kd.R_reads' HO_23.out).2.2 x25_2 p1760 q1760
            cases e1760
            replace p1760 := eq_true p1760
            replace q1760 := eq_true q1760
            try go_wp2_with (first | ((with_reducible refine gate_dst (N := 11) rfl ?_); refine box_event ?hg (N := 11) ?hd (cs := #[.int .i64 0, .int .i64 0, .int .i64 0, .int .i64 0]) (t := 26) ?hr ?_; (case hd => rfl); (case hg => rfl); (case hr => first | (go_simp; done) | (go_simp; rfl)); intro gb1761 hg w32 hbox hb; have n0_ := Aside0.mk (Kd.R_below (by (with_reducible repeat (first | apply Kd.R_alloc | apply Kd.R_drewN | apply Kd.R_drew)); exact HO_8.out) hb); have n1_ := Aside0.mk (Kd.R_below (Kd.R_elderB (by (with_reducible repeat (first | apply Kd.R_alloc | apply Kd.R_drewN | apply Kd.R_drew)); exact HO_23.out) gb1761 (Nat.le_of_eq hg.symm)) hb); have n2_ := Aside0.mk (below_step (by repeat (first | (with_reducible first | exact HB.out | apply below_alloc | apply pw_below_drewN | apply below_drew1) | exact HB.out)) hb); have n3_ := Aside0.mk (hbox); have n4_ := Aside0.mk ((by rw [hg]; exact (below_size (by repeat (first | (with_reducible first | exact HB.out | apply below_alloc | apply pw_below_drewN | apply below_drew1) | exact HB.out))) : w.heap.size ≤ gb1761)); have n5_ := Aside0.mk ((by rw [hg]; exact (below_size (by repeat (first | (with_reducible first | exact HB.out | apply below_alloc | apply pw_below_drewN | apply below_drew1) | exact HB.out))) : w.heap.size ≤ gb1761)); clear HO_8; clear HO_23; clear HB; have HO_8 := n0_; have HO_23 := n1_; have HB := n2_; have BK1761 := n3_; have GW1761 := n4_; have GE1761 := n5_; clear n0_ n1_ n2_ n3_ n4_ n5_; clear hb hbox hg; have hcz33_0 : w32.cell? ⟨gb1761, 0, none⟩ = some (.int .i64 0) := (blk_cell BK1761.out 0).trans rfl; have hcz33_1 : w32.cell? ⟨gb1761, 1, none⟩ = some (.int .i64 0) := (blk_cell BK1761.out 1).trans rfl; have hcz33_2 : w32.cell? ⟨gb1761, 2, none⟩ = some (.int .i64 0) := (blk_cell BK1761.out 2).trans rfl; have hcz33_3 : w32.cell? ⟨gb1761, 3, none⟩ = some (.int .i64 0) := (blk_cell BK1761.out 3).trans rfl; have hfz33_0 := blk_frozen BK1761.out 0; have hfz33_1 := blk_frozen BK1761.out 1; have hfz33_2 := blk_frozen BK1761.out 2; have hfz33_3 := blk_frozen BK1761.out 3))
            have n0_ : Aside0 (Kd.R k111 111 ((((w32.setCell ⟨gb1761, 0, none⟩ (.int .i64 ((rd_T26 t1757 x25_2).f0))).setCell ⟨gb1761, 1, none⟩ (.int .i64 ((rd_T26 t1757 x25_2).f1))).setCell ⟨gb1761, 2, none⟩ (.int .i64 ((rd_T26 t1757 x25_2).f2))).setCell ⟨gb1761, 3, none⟩ (.int .i64 ((rd_T26 t1757 x25_2).f3))) w.heap.size (fun _ => True) u8 x8_2) := ⟨by (with_reducible repeat (first | apply Kd.R_alloc | apply Kd.R_drewN | apply Kd.R_drew)); exact Kd.R_mono (Kd.R_far (p := ⟨gb1761, 3, none⟩) (Kd.R_far (p := ⟨gb1761, 2, none⟩) (Kd.R_far (p := ⟨gb1761, 1, none⟩) (Kd.R_far (p := ⟨gb1761, 0, none⟩) (Kd.R_types HO_8.out BK1761.out (by decide)) (fun _ hk => hk.2) (.int .i64 ((rd_T26 t1757 x25_2).f0))) (fun _ hk => hk.2) (.int .i64 ((rd_T26 t1757 x25_2).f1))) (fun _ hk => hk.2) (.int .i64 ((rd_T26 t1757 x25_2).f2))) (fun _ hk => hk.2) (.int .i64 ((rd_T26 t1757 x25_2).f3))) (fun _ hk => trivial)⟩
            have n1_ : Aside0 (Kd.R k26 26 ((((w32.setCell ⟨gb1761, 0, none⟩ (.int .i64 ((rd_T26 t1757 x25_2).f0))).setCell ⟨gb1761, 1, none⟩ (.int .i64 ((rd_T26 t1757 x25_2).f1))).setCell ⟨gb1761, 2, none⟩ (.int .i64 ((rd_T26 t1757 x25_2).f2))).setCell ⟨gb1761, 3, none⟩ (.int .i64 ((rd_T26 t1757 x25_2).f3))) w.heap.size (fun k_ => k_ ≠ gb1761) (.slice (some ad1760) t1757.length co14) t1757) := ⟨by (with_reducible repeat (first | apply Kd.R_alloc | apply Kd.R_drewN | apply Kd.R_drew)); exact Kd.R_mono (Kd.R_far (p := ⟨gb1761, 3, none⟩) (Kd.R_far (p := ⟨gb1761, 2, none⟩) (Kd.R_far (p := ⟨gb1761, 1, none⟩) (Kd.R_far (p := ⟨gb1761, 0, none⟩) (Kd.R_mono HO_23.out (fun k_ hk => (⟨hk, hk.2⟩ : _ ∧ k_ ≠ gb1761))) (fun _ hk => hk.2) (.int .i64 ((rd_T26 t1757 x25_2).f0))) (fun _ hk => hk.2) (.int .i64 ((rd_T26 t1757 x25_2).f1))) (fun _ hk => hk.2) (.int .i64 ((rd_T26 t1757 x25_2).f2))) (fun _ hk => hk.2) (.int .i64 ((rd_T26 t1757 x25_2).f3))) (fun _ hk => hk.1.2)⟩
            have n2_ : Aside0 (((((w32.setCell ⟨gb1761, 0, none⟩ (.int .i64 ((rd_T26 t1757 x25_2).f0))).setCell ⟨gb1761, 1, none⟩ (.int .i64 ((rd_T26 t1757 x25_2).f1))).setCell ⟨gb1761, 2, none⟩ (.int .i64 ((rd_T26 t1757 x25_2).f2))).setCell ⟨gb1761, 3, none⟩ (.int .i64 ((rd_T26 t1757 x25_2).f3))).heap[gb1761]? = some (.cells #[.int .i64 ((rd_T26 t1757 x25_2).f0), .int .i64 ((rd_T26 t1757 x25_2).f1), .int .i64 ((rd_T26 t1757 x25_2).f2), .int .i64 ((rd_T26 t1757 x25_2).f3)] 26 (0, 0))) := ⟨by (with_reducible repeat (first | refine blk_drewN ?_ _ | refine blk_drew ?_ | refine blk_alloc ?_ _)); refine blk_put (cs := #[.int .i64 ((rd_T26 t1757 x25_2).f0), .int .i64 ((rd_T26 t1757 x25_2).f1), .int .i64 ((rd_T26 t1757 x25_2).f2), .int .i64 0]) ?_ 3 _ rfl; (with_reducible repeat (first | refine blk_drewN ?_ _ | refine blk_drew ?_ | refine blk_alloc ?_ _)); refine blk_put (cs := #[.int .i64 ((rd_T26 t1757 x25_2).f0), .int .i64 ((rd_T26 t1757 x25_2).f1), .int .i64 0, .int .i64 0]) ?_ 2 _ rfl; (with_reducible repeat (first | refine blk_drewN ?_ _ | refine blk_drew ?_ | refine blk_alloc ?_ _)); refine blk_put (cs := #[.int .i64 ((rd_T26 t1757 x25_2).f0), .int .i64 0, .int .i64 0, .int .i64 0]) ?_ 1 _ rfl; (with_reducible repeat (first | refine blk_drewN ?_ _ | refine blk_drew ?_ | refine blk_alloc ?_ _)); refine blk_put (cs := #[.int .i64 0, .int .i64 0, .int .i64 0, .int .i64 0]) ?_ 0 _ rfl; (with_reducible repeat (first | refine blk_drewN ?_ _ | refine blk_drew ?_ | refine blk_alloc ?_ _)); exact BK1761.out⟩
            have n3_ : Aside0 (Below w.heap.size w ((((w32.setCell ⟨gb1761, 0, none⟩ (.int .i64 ((rd_T26 t1757 x25_2).f0))).setCell ⟨gb1761, 1, none⟩ (.int .i64 ((rd_T26 t1757 x25_2).f1))).setCell ⟨gb1761, 2, none⟩ (.int .i64 ((rd_T26 t1757 x25_2).f2))).setCell ⟨gb1761, 3, none⟩ (.int .i64 ((rd_T26 t1757 x25_2).f3)))) := ⟨by repeat (first | (with_reducible first | exact HB.out | apply below_alloc | apply pw_below_drewN | apply below_drew1 | refine below_set ?_ GE1761.out) | exact HB.out)⟩
            (try clear HO_8)
            (try clear HO_23)
            (try clear BK1761)
            (try clear HB)
            generalize ((((w32.setCell ⟨gb1761, 0, none⟩ (.int .i64 ((rd_T26 t1757 x25_2).f0))).setCell ⟨gb1761, 1, none⟩ (.int .i64 ((rd_T26 t1757 x25_2).f1))).setCell ⟨gb1761, 2, none⟩ (.int .i64 ((rd_T26 t1757 x25_2).f2))).setCell ⟨gb1761, 3, none⟩ (.int .i64 ((rd_T26 t1757 x25_2).f3))) = w34 at n0_ n1_ n2_ n3_ ⊢
            have HO_8 := n0_
            have HO_23 := n1_
            have BK1761 := n2_
            have HB := n3_
            clear n0_ n1_ n2_ n3_
            have n0_ := Aside0.mk (Kd.R_drew HO_8.out)
            have n1_ := Aside0.mk (Kd.R_drew HO_23.out)
            have n2_ := Aside0.mk (blk_drew BK1761.out)
            have n3_ := Aside0.mk (below_drew1 HB.out)
            clear HO_8
            clear HO_23
            clear BK1761
            clear HB
            have HO_8 := n0_
            have HO_23 := n1_
            have BK1761 := n2_
            have HB := n3_
            clear n0_ n1_ n2_ n3_
            refine start_ (n := 17) (S := fun w' => w'.cell? ⟨gb1761, 0, none⟩ = some (.int .i64 ((rd_T26 t1757 x25_2).f0)) ∧ w'.cell? ⟨gb1761, 1, none⟩ = some (.int .i64 ((rd_T26 t1757 x25_2).f1)) ∧ w'.cell? ⟨gb1761, 2, none⟩ = some (.int .i64 ((rd_T26 t1757 x25_2).f2)) ∧ w'.cell? ⟨gb1761, 3, none⟩ = some (.int .i64 ((rd_T26 t1757 x25_2).f3))) (ds := []) #[false, false, false, false, false, false, false, false, false, false, false, false, false, false, false, false, false] (by kernel_rfl) rfl rfl ⟨(blk_cell BK1761.out 0).trans rfl, (blk_cell BK1761.out 1).trans rfl, (blk_cell BK1761.out 2).trans rfl, (blk_cell BK1761.out 3).trans rfl⟩ (fun hHeld => ?_); refine with_tabW impl_PartFrom.tab11 impl_PartFrom.bits11 (fun HT_ HW_ => ?_)
            generalize w34.drew = w35 at HO_8 HO_23 BK1761 HB hHeld ⊢
            refine pure_ (i := 0) (N := some 47) (v := ?_) (a' := ?_) #[true, false, false, false, false, false, false, false, false, false, false, false, false, false, false, false, false] rfl rfl (any_of HT_.out (by kernel_rfl)) (fun _ _ _ h => h) (Or.inl ⟨by rfl, ?_⟩) ?_ ?_
            rotate_left
            ·
             intro w'
             go_simp
             with_reducible rfl
            rotate_left
            ·
             simp only [Act.put, List.setIfInBounds_toArray, List.set_cons_zero, List.set_cons_succ, i64_w, i32_w]
             rfl
            refine pure_ (i := 1) (N := some 48) (v := ?_) (a' := ?_) #[true, true, false, false, false, false, false, false, false, false, false, false, false, false, false, false, false] rfl rfl (any_of HT_.out (by kernel_rfl)) (fun _ _ _ h => h) (Or.inl ⟨by rfl, ?_⟩) ?_ ?_
            rotate_left
            ·
             intro w'
             go_simp
             with_reducible rfl
            rotate_left
            ·
             simp only [Act.put, List.setIfInBounds_toArray, List.set_cons_zero, List.set_cons_succ, i64_w, i32_w]
             rfl
            refine pure_ (i := 3) (N := some 50) (v := ?_) (a' := ?_) #[true, true, false, true, false, false, false, false, false, false, false, false, false, false, false, false, false] rfl rfl (any_of HT_.out (by kernel_rfl)) (fun _ _ _ h => h) (Or.inl ⟨by rfl, ?_⟩) ?_ ?_
            rotate_left
            ·
             intro w'
             go_simp
             with_reducible rfl
            rotate_left
            ·
             simp only [Act.put, List.setIfInBounds_toArray, List.set_cons_zero, List.set_cons_succ, i64_w, i32_w]
             rfl
            refine pure_ (i := 5) (N := some 52) (v := ?_) (a' := ?_) #[true, true, false, true, false, true, false, false, false, false, false, false, false, false, false, false, false] rfl rfl (any_of HT_.out (by kernel_rfl)) (fun _ _ _ h => h) (Or.inl ⟨by rfl, ?_⟩) ?_ ?_
            rotate_left
            ·
             intro w'
             go_simp
             with_reducible rfl
            rotate_left
            ·
             simp only [Act.put, List.setIfInBounds_toArray, List.set_cons_zero, List.set_cons_succ, i64_w, i32_w]
             rfl
            refine pure_ (i := 10) (N := some 57) (v := ?_) (a' := ?_) #[true, true, false, true, false, true, false, false, false, false, true, false, false, false, false, false, false] rfl rfl (any_of HT_.out (by kernel_rfl)) (fun _ _ _ h => h) (Or.inl ⟨by rfl, ?_⟩) ?_ ?_
            rotate_left
            ·
             intro w'
             go_simp
             with_reducible rfl
            rotate_left
            ·
             simp only [Act.put, List.setIfInBounds_toArray, List.set_cons_zero, List.set_cons_succ, i64_w, i32_w]
             rfl
            refine pure_ (i := 12) (N := some 59) (v := ?_) (a' := ?_) #[true, true, false, true, false, true, false, false, false, false, true, false, true, false, false, false, false] rfl rfl (any_of HT_.out (by kernel_rfl)) (fun _ _ _ h => h) (Or.inl ⟨by rfl, ?_⟩) ?_ ?_
            rotate_left
            ·
             intro w'
             go_simp
             with_reducible rfl
            rotate_left
            ·
             simp only [Act.put, List.setIfInBounds_toArray, List.set_cons_zero, List.set_cons_succ, i64_w, i32_w]
             rfl
            refine take_ (i := 2) (N := some 49) (v := ?_) (a' := ?_) #[true, true, true, true, false, true, false, false, false, false, true, false, true, false, false, false, false] rfl rfl (take_ofW HT_.out HW_.out (by kernel_rfl)) (fun _ _ _ h => h) (Or.inl ⟨by rfl, ?_⟩) hHeld ?_ ?_
            rotate_left
            ·
             rintro w' ⟨s0, s1, s2, s3⟩
             go_simp
             with_reducible rfl
            rotate_left
            ·
             simp only [Act.put, List.setIfInBounds_toArray, List.set_cons_zero, List.set_cons_succ, i64_w, i32_w]
             rfl
            refine take_ (i := 4) (N := some 51) (v := ?_) (a' := ?_) #[true, true, true, true, true, true, false, false, false, false, true, false, true, false, false, false, false] rfl rfl (take_ofW HT_.out HW_.out (by kernel_rfl)) (fun _ _ _ h => h) (Or.inl ⟨by rfl, ?_⟩) hHeld ?_ ?_
            rotate_left
            ·
             rintro w' ⟨s0, s1, s2, s3⟩
             go_simp
             with_reducible rfl
            rotate_left
            ·
             simp only [Act.put, List.setIfInBounds_toArray, List.set_cons_zero, List.set_cons_succ, i64_w, i32_w]
             rfl
            refine take_ (i := 6) (N := some 53) (v := ?_) (a' := ?_) #[true, true, true, true, true, true, true, false, false, false, true, false, true, false, false, false, false] rfl rfl (take_ofW HT_.out HW_.out (by kernel_rfl)) (fun _ _ _ h => h) (Or.inl ⟨by rfl, ?_⟩) hHeld ?_ ?_
            rotate_left
            ·
             rintro w' ⟨s0, s1, s2, s3⟩
             go_simp
             with_reducible rfl
            rotate_left
            ·
             simp only [Act.put, List.setIfInBounds_toArray, List.set_cons_zero, List.set_cons_succ, i64_w, i32_w]
             rfl
            refine pure_ (i := 7) (N := some 54) (v := ?_) (a' := ?_) #[true, true, true, true, true, true, true, true, false, false, true, false, true, false, false, false, false] rfl rfl (any_of HT_.out (by kernel_rfl)) (fun _ _ _ h => h) (Or.inl ⟨by rfl, ?_⟩) ?_ ?_
            rotate_left
            ·
             intro w'
             go_simp
             with_reducible rfl
            rotate_left
            ·
             simp only [Act.put, List.setIfInBounds_toArray, List.set_cons_zero, List.set_cons_succ, i64_w, i32_w]
             rfl
            refine take_ (i := 11) (N := some 58) (v := ?_) (a' := ?_) #[true, true, true, true, true, true, true, true, false, false, true, true, true, false, false, false, false] rfl rfl (take_ofW HT_.out HW_.out (by kernel_rfl)) (fun _ _ _ h => h) (Or.inl ⟨by rfl, ?_⟩) hHeld ?_ ?_
            rotate_left
            ·
             rintro w' ⟨s0, s1, s2, s3⟩
             go_simp
             with_reducible rfl
            rotate_left
            ·
             simp only [Act.put, List.setIfInBounds_toArray, List.set_cons_zero, List.set_cons_succ, i64_w, i32_w]
             rfl
            refine take_ (i := 13) (N := some 60) (v := ?_) (a' := ?_) #[true, true, true, true, true, true, true, true, false, false, true, true, true, true, false, false, false] rfl rfl (take_ofW HT_.out HW_.out (by kernel_rfl)) (fun _ _ _ h => h) (Or.inl ⟨by rfl, ?_⟩) hHeld ?_ ?_
            rotate_left
            ·
             rintro w' ⟨s0, s1, s2, s3⟩
             go_simp
             with_reducible rfl
            rotate_left
            ·
             simp only [Act.put, List.setIfInBounds_toArray, List.set_cons_zero, List.set_cons_succ, i64_w, i32_w]
             rfl
            refine pure_ (i := 14) (N := some 61) (v := ?_) (a' := ?_) #[true, true, true, true, true, true, true, true, false, false, true, true, true, true, true, false, false] rfl rfl (any_of HT_.out (by kernel_rfl)) (fun _ _ _ h => h) (Or.inl ⟨by rfl, ?_⟩) ?_ ?_
            rotate_left
            ·
             intro w'
             go_simp
             with_reducible rfl
            rotate_left
            ·
             simp only [Act.put, List.setIfInBounds_toArray, List.set_cons_zero, List.set_cons_succ, i64_w, i32_w]
             rfl
            refine one_ (i := 8) (N := some 55) #[true, true, true, true, true, true, true, true, true, false, true, true, true, true, true, false, false] rfl rfl (one_of HT_.out (by kernel_rfl)) (by decide) (fun K hK => ?_)
            refine value_ (w1 := ?_) (v := ?_) (by rfl) rfl ?_ ?_
            rotate_left 2
            ·
             go_simp
             constructor
             ·
              rfl
             ·
              rfl
            refine hK.out _ _ ⟨(blk_cell (blk_alloc BK1761.out _) 0).trans rfl, (blk_cell (blk_alloc BK1761.out _) 1).trans rfl, (blk_cell (blk_alloc BK1761.out _) 2).trans rfl, (blk_cell (blk_alloc BK1761.out _) 3).trans rfl⟩ (fun hHeld => ?_)
            clear hK K
            refine norm_ (a' := ?_) ?_ ?_
            rotate_left
            ·
             show Act.put _ (some 55) _ = _
             simp only [Act.put, List.setIfInBounds_toArray, List.set_cons_zero, List.set_cons_succ, i64_w, i32_w]
             rfl
            refine one_ (i := 9) (N := some 56) #[true, true, true, true, true, true, true, true, true, true, true, true, true, true, true, false, false] rfl rfl (one_of HT_.out (by kernel_rfl)) (by decide) (fun K hK => ?_)
            refine Kd.R_append_step k111 (w0 := w) w.heap.size (by rfl) (.tmp 47) (.tmp 55) 107 111 (.agg #[(.int .i64 0), (.int .i64 0), (.int .i64 0)]) 24 rfl Try.underlying107 info111 rfl (by decide) (by omega) u8 x8_2 (⟨(rd_T26 t1757 x25_2).f0, (rd_T26 t1757 x25_2).f1, (rd_T26 t1757 x25_2).f2⟩ : S111) [.int .i64 ((rd_T26 t1757 x25_2).f0), .int .i64 ((rd_T26 t1757 x25_2).f1), .int .i64 ((rd_T26 t1757 x25_2).f2)] (fun _ => True) (fun _ => False) rfl rfl ?aP (fun _ hk => hk.elim) ?aF ?aO ?aB ?aS ?aL ?_
            (case aP => exact k111_mkM _ _ _ (⟨(rd_T26 t1757 x25_2).f0, (rd_T26 t1757 x25_2).f1, (rd_T26 t1757 x25_2).f2⟩ : S111))
            (case aB => exact (by repeat (first | (with_reducible first | exact HB.out | apply below_alloc | apply pw_below_drewN | apply below_drew1 | refine below_set ?_ GE1761.out) | exact HB.out)))
            (case aF => exact (fun _ _ => trivial))
            (case aO => exact (by (with_reducible repeat (first | apply Kd.R_alloc | apply Kd.R_drewN | apply Kd.R_drew)); exact HO_8.out))
            (case aS => exact (below_size (by repeat (first | (with_reducible first | exact HB.out | apply below_alloc | apply pw_below_drewN | apply below_drew1 | refine below_set ?_ GE1761.out) | exact HB.out))))
            (case aL => have := LMc31.out; omega)
            intro v1772 w36 ho hb hg hat
            rw [← Ny1771.out] at ho
            have n0_ := Aside0.mk (Kd.R_over' (by (with_reducible repeat (first | apply Kd.R_alloc | apply Kd.R_drewN | apply Kd.R_drew)); exact HO_23.out) (Kd.R_typed (by (with_reducible repeat (first | apply Kd.R_alloc | apply Kd.R_drewN | apply Kd.R_drew)); exact HO_8.out)) (by decide) hg)
            have n1_ := Aside0.mk (blk_grown (g := gb1761) (o := .cells #[.int .i64 ((rd_T26 t1757 x25_2).f0), .int .i64 ((rd_T26 t1757 x25_2).f1), .int .i64 ((rd_T26 t1757 x25_2).f2), .int .i64 ((rd_T26 t1757 x25_2).f3)] 26 (0, 0)) (by (with_reducible repeat (first | refine blk_drewN ?_ _ | refine blk_drew ?_ | refine blk_alloc ?_ _)); exact BK1761.out) hg (Kd.R_ne HO_8.out BK1761.out (by decide)))
            have n2_ := Aside0.mk (hb)
            have n3_ := Aside0.mk (ho)
            clear HO_23
            clear BK1761
            clear HB
            clear HO_8
            have HO_23 := n0_
            have BK1761 := n1_
            have HB := n2_
            have HO1773 := n3_
            clear n0_ n1_ n2_ n3_
            clear ho hb hg hat
            refine hK.out _ _ ⟨(blk_cell BK1761.out 0).trans rfl, (blk_cell BK1761.out 1).trans rfl, (blk_cell BK1761.out 2).trans rfl, (blk_cell BK1761.out 3).trans rfl⟩ (fun hHeld => ?_)
            clear hK K
            refine norm_ (a' := ?_) ?_ ?_
            rotate_left
            ·
             show Act.put _ (some 56) _ = _
             simp only [Act.put, List.setIfInBounds_toArray, List.set_cons_zero, List.set_cons_succ, i64_w, i32_w]
             rfl
            refine pure_ (i := 15) (N := some 8) (v := ?_) (a' := ?_) #[true, true, true, true, true, true, true, true, true, true, true, true, true, true, true, true, false] rfl rfl (any_of HT_.out (by kernel_rfl)) (fun _ _ _ h => h) (Or.inl ⟨by rfl, ?_⟩) ?_ ?_
            rotate_left
            ·
             intro w'
             go_simp
             with_reducible rfl
            rotate_left
            ·
             simp only [Act.put, List.setIfInBounds_toArray, List.set_cons_zero, List.set_cons_succ, i64_w, i32_w]
             rfl
            refine pure_ (i := 16) (N := some 9) (v := ?_) (a' := ?_) #[true, true, true, true, true, true, true, true, true, true, true, true, true, true, true, true, true] rfl rfl (any_of HT_.out (by kernel_rfl)) (fun _ _ _ h => h) (Or.inl ⟨by rfl, ?_⟩) ?_ ?_
            rotate_left
            ·
             intro w'
             go_simp
             with_reducible rfl
            rotate_left
            ·
             simp only [Act.put, List.setIfInBounds_toArray, List.set_cons_zero, List.set_cons_succ, i64_w, i32_w]
             rfl
            refine done_ (done_of HT_.out (by kernel_rfl)) ?_
            try go_wp2
            go_roundg k2
            case measure => have := HJ3.out; have := HK2.out; omega
            case rel => exact ⟨(y1771), (wrap64 (((rd_T26 t1757 x25_2).f0) + ((rd_T26 t1757 x25_2).f1))), (wrap64 (x25_2 + 1)), (by first | rfl | (simp; done) | (simp [*]; done)), (by first | rfl | (simp; done) | (simp [*]; done)), H', ⟨by have := HJ3.out; have := HK2.out; omega⟩, ⟨by (with_reducible repeat (first | apply Kd.R_alloc | apply Kd.R_drewN | apply Kd.R_drew)); exact HO1773.out⟩, ⟨by (with_reducible repeat (first | apply Kd.R_alloc | apply Kd.R_drewN | apply Kd.R_drew)); exact Kd.R_mono HO_23.out (fun _ hk => trivial)⟩, ⟨by repeat (first | (with_reducible first | exact HB.out | apply below_alloc | apply pw_below_drewN | apply below_drew1 | refine below_set ?_ GE1761.out) | exact HB.out)⟩⟩
           ·
            rw [if_neg c31] at H
            exact absurd H (by simp)
        ·
         rw [if_neg c17] at H
         exact absurd H (by simp)
       ·
        rw [if_neg c16] at H
        exact absurd H (by simp)
      ·
       rw [if_neg c15] at H
       have c15b0 : decide (x25_2 < (t1757.length : Int)) = false := decide_eq_false c15
       clear c15
       by_cases c37 : a2 < x9_2
       ·
        rw [if_pos c37] at H
        have c37b0 : decide (a2 < x9_2) = true := decide_eq_true c37
        clear c37
        obtain ⟨y1774, hy1774⟩ : ∃ y_ : List (S111), y_ = (([] : List (S111))) := ⟨_, rfl⟩
        replace H : (some (y1774, false)) = some (r1, r2) := by first | (rw [hy1774]; with_reducible exact H) | (have H2_ := (Option.bind_some _ _).symm.trans H; rw [hy1774]; with_reducible exact H2_) | (have H2_ := (Option.bind_some _ _).symm.trans H; with_reducible exact H2_) | with_reducible exact H | (rw [hy1774]; exact H) | exact H
        have Ny1774 := Aside0.mk hy1774
        clear hy1774
        simp only [Option.some.injEq, Prod.mk.injEq] at H
        obtain ⟨rfl, rfl⟩ := H
        go_wp2_with (first | ((with_reducible refine gate_dst (N := 66) rfl ?_); refine Kd.R_lit k111 _ 111 ?hg (N := 66) ?hd (xs := ([] : List (S111))) (inner := []) (ok := fun _ => True) (okp := fun _ => True) ?hr ?hp (fun _ hk => hk) trivial (Below.refl _ _) (Nat.le_refl _) (by simp) ?_; (case hd => rfl); (case hg => rfl); (case hr => first | (go_simp; done) | (go_simp; rfl)); (case hp => exact (Reps.none _ _)); intro v1775 w38 ho39 hb hg_ hnew_; clear hg_ hnew_; (first | rw [← Ny1774.out] at ho39 | (simp only [Int.reduceToNat] at ho39; rw [← Ny1774.out] at ho39)); have n0_ := Aside0.mk (Kd.R_elder' (by (with_reducible repeat (first | apply Kd.R_alloc | apply Kd.R_drewN | apply Kd.R_drew)); exact HO_8.out) (Kd.R_base ho39) hb); have n1_ := Aside0.mk (Kd.R_below (by (with_reducible repeat (first | apply Kd.R_alloc | apply Kd.R_drewN | apply Kd.R_drew)); exact HO_23.out) hb); have n2_ := Aside0.mk (Kd.R_lower (Kd.R_new' ho39 (Kd.R_lt (by (with_reducible repeat (first | apply Kd.R_alloc | apply Kd.R_drewN | apply Kd.R_drew)); exact HO_8.out))) (below_size (by repeat (first | (with_reducible first | exact HB.out | apply below_alloc | apply pw_below_drewN | apply below_drew1) | exact HB.out)))); have n3_ := Aside0.mk (below_step (by repeat (first | (with_reducible first | exact HB.out | apply below_alloc | apply pw_below_drewN | apply below_drew1) | exact HB.out)) hb); clear HO_8; clear HO_23; clear HB; have HO_8 := n0_; have HO_23 := n1_; have HO1776 := n2_; have HB := n3_; clear n0_ n1_ n2_ n3_; clear hb ho39))
        go_ret2
        exact ⟨_, by first | rfl | (simp [errW_none, errW_some] <;> rfl) | (simp [*, errW_none, errW_some] <;> rfl), by (with_reducible repeat (first | apply Kd.R_alloc | apply Kd.R_drewN | apply Kd.R_drew)); exact Kd.R_mono HO1776.out (fun _ hk => trivial), by repeat (first | (with_reducible first | exact HB.out | apply below_alloc | apply pw_below_drewN | apply below_drew1) | exact HB.out)⟩
       ·
        rw [if_neg c37] at H
        have c37b0 : decide (a2 < x9_2) = false := decide_eq_false c37
        clear c37
        by_cases c40 : a2 > x9_2
        ·
         rw [if_pos c40] at H
         have c40b0 : decide (x9_2 < a2) = true := decide_eq_true c40
         clear c40
         by_cases c41 : x8_2.length < 5864062014805
         ·
          rw [if_pos c41] at H
          have LMc41 := Aside0.mk c41
          clear c41
          obtain ⟨y1777, hy1777⟩ : ∃ y_ : List (S111), y_ = (x8_2 ++ [(⟨x9_2, wrap64 (a2 - x9_2), 0⟩ : S111)]) := ⟨_, rfl⟩
          replace H : (some (y1777, true)) = some (r1, r2) := by first | (rw [hy1777]; with_reducible exact H) | (have H2_ := (Option.bind_some _ _).symm.trans H; rw [hy1777]; with_reducible exact H2_) | (have H2_ := (Option.bind_some _ _).symm.trans H; with_reducible exact H2_) | with_reducible exact H | (rw [hy1777]; exact H) | exact H
          have Ny1777 := Aside0.mk hy1777
          clear hy1777
          simp only [Option.some.injEq, Prod.mk.injEq] at H
          obtain ⟨rfl, rfl⟩ := H
          go_wp2_with (first | ((with_reducible refine gate_builtin (b := .append) (xs := #[.tmp 70, .tmp 76]) rfl ?_); at_builtin; refine Kd.R_append k111 (w0 := w) w.heap.size rfl (.tmp 70) (.tmp 76) 107 111 (.agg #[(.int .i64 0), (.int .i64 0), (.int .i64 0)]) 24 rfl Try.underlying107 info111 rfl (by decide) (by omega) u8 x8_2 (⟨x9_2, wrap64 (a2 - x9_2), 0⟩ : S111) [.int .i64 x9_2, .int .i64 (wrap64 (a2 - x9_2)), .int .i64 0] (fun _ => True) (fun _ => False) rfl rfl ?aP (fun _ hk => hk.elim) ?aF ?aO ?aB ?aS ?aL ?_; (case aP => exact k111_mkM _ _ _ (⟨x9_2, wrap64 (a2 - x9_2), 0⟩ : S111)); (case aB => exact (by repeat (first | (with_reducible first | exact HB.out | apply below_alloc | apply pw_below_drewN | apply below_drew1) | exact HB.out))); (case aF => exact (fun _ _ => trivial)); (case aO => exact (by (with_reducible repeat (first | apply Kd.R_alloc | apply Kd.R_drewN | apply Kd.R_drew)); exact HO_8.out)); (case aS => exact (below_size (by repeat (first | (with_reducible first | exact HB.out | apply below_alloc | apply pw_below_drewN | apply below_drew1) | exact HB.out)))); (case aL => have := LMc41.out; omega); intro v1778 w42 ho hb hg hat; rw [← Ny1777.out] at ho; have n0_ := Aside0.mk (Kd.R_over' (by (with_reducible repeat (first | apply Kd.R_alloc | apply Kd.R_drewN | apply Kd.R_drew)); exact HO_23.out) (Kd.R_typed (by (with_reducible repeat (first | apply Kd.R_alloc | apply Kd.R_drewN | apply Kd.R_drew)); exact HO_8.out)) (by decide) hg); have n1_ := Aside0.mk (hb); have n2_ := Aside0.mk (ho); clear HO_23; clear HB; clear HO_8; have HO_23 := n0_; have HB := n1_; have HO1779 := n2_; clear n0_ n1_ n2_; clear ho hb hg hat))
          go_ret2
          exact ⟨_, by first | rfl | (simp [errW_none, errW_some] <;> rfl) | (simp [*, errW_none, errW_some] <;> rfl), by (with_reducible repeat (first | apply Kd.R_alloc | apply Kd.R_drewN | apply Kd.R_drew)); exact HO1779.out, by repeat (first | (with_reducible first | exact HB.out | apply below_alloc | apply pw_below_drewN | apply below_drew1) | exact HB.out)⟩
         ·
          rw [if_neg c41] at H
          exact absurd H (by simp)
        ·
         rw [if_neg c40] at H
         have c40b0 : decide (x9_2 < a2) = false := decide_eq_false c40
         clear c40
         simp only [Option.some.injEq, Prod.mk.injEq] at H
         obtain ⟨rfl, rfl⟩ := H
         go_wp2
         go_ret2
         exact ⟨_, by first | rfl | (simp [errW_none, errW_some] <;> rfl) | (simp [*, errW_none, errW_some] <;> rfl), by (with_reducible repeat (first | apply Kd.R_alloc | apply Kd.R_drewN | apply Kd.R_drew)); exact HO_8.out, by repeat (first | (with_reducible first | exact HB.out | apply below_alloc | apply pw_below_drewN | apply below_drew1) | exact HB.out)⟩
end Go.Proofs.Ytbhlmeghbfmgiaa.F

namespace Go.Proofs.Ytbhlmeghbfmgiaa.F
open Go.RowKit Go.Proofs.YtbhlmeghbfmgiaaW.PrintWords Go.Proofs.YtbhlmeghbfmgiaaW.PrintLast Go.Proofs.YtbhlmeghbfmgiaaW.PrintMore
attribute [local go_sem] max2_int min2_int max_two min_two max_three min_three max_four min_four
set_option linter.unusedVariables false
set_option linter.unusedSimpArgs false
def spec_VoiceOf.l0 : Nat → List (S26) → Int → List (S26) → Int → Option ((List (S26)))
 | 0, _, _, _, _ => none
 | k + 1, x0, x1, x5, x6 => if x6 < (x0.length : Int) then (if 0 ≤ x6 then (if ((rd_T26 x0 x6).f3) = x1 then (if x5.length < 4398046511104 then (spec_VoiceOf.l0 k x0 x1 (x5 ++ [(⟨(rd_T26 x0 x6).f0, (rd_T26 x0 x6).f1, (rd_T26 x0 x6).f2, (rd_T26 x0 x6).f3⟩ : S26)]) (wrap64 (x6 + 1))) else (none)) else (spec_VoiceOf.l0 k x0 x1 x5 (wrap64 (x6 + 1)))) else (none)) else (some x5)
def spec_VoiceOf.f (k : Nat) (l0 : List (S26)) (a1 : Int) : Option ((List (S26))) := spec_VoiceOf.l0 k l0 a1 (([] : List (S26))) 0
set_option maxHeartbeats 8000000 in
set_option maxRecDepth 100000 in
theorem spec_VoiceOf.calls (k : Nat) (A0 : Option Addr) (c0 : Nat) (l0 : List (S26)) (a1 : Int) (r : List (S26)) (w : World) (hr0 : Kd.C k26 w A0 l0.length l0) (hc0 : l0.length ≤ c0) (h : spec_VoiceOf.f k l0 a1 = some r) :
  Calls Try.prog 127 #[.slice A0 l0.length c0, .int .i64 a1] w fun e w' => ∃ v0_ : Value, e = .returned (v0_) ∧ Kd.R k26 26 w' w.heap.size (fun _ => True) v0_ r ∧ Below w.heap.size w w' := by
 have hu26 := Try.underlying26
 have HR0 := Aside0.mk hr0
 have HC0 := Aside0.mk hc0
 clear hr0 hc0
 have HB := Aside0.mk (Below.refl w.heap.size w)
 have H : (spec_VoiceOf.l0 k l0 a1 (([] : List (S26))) 0) = some r := h
 clear h
 obtain ⟨y1780, hy1780⟩ : ∃ y_ : List (S26), y_ = (([] : List (S26))) := ⟨_, rfl⟩
 replace H : (spec_VoiceOf.l0 k l0 a1 y1780 0) = some r := by first | (rw [hy1780]; with_reducible exact H) | (have H2_ := (Option.bind_some _ _).symm.trans H; rw [hy1780]; with_reducible exact H2_) | (have H2_ := (Option.bind_some _ _).symm.trans H; with_reducible exact H2_) | with_reducible exact H | (rw [hy1780]; exact H) | exact H
 have Ny1780 := Aside0.mk hy1780
 clear hy1780
 have H' := Aside0.mk H
 clear H
 go_enter Try.func127, Try.ntmps127
 go_wp2_with (first | ((with_reducible refine gate_dst (N := 7) rfl ?_); refine Kd.R_lit k26 _ 26 ?hg (N := 7) ?hd (xs := ([] : List (S26))) (inner := []) (ok := fun _ => True) (okp := fun _ => True) ?hr ?hp (fun _ hk => hk) trivial (Below.refl _ _) (Nat.le_refl _) (by simp) ?_; (case hd => rfl); (case hg => rfl); (case hr => first | (go_simp; done) | (go_simp; rfl)); (case hp => exact (Reps.none _ _)); intro v1781 w3 ho4 hb hg_ hnew_; clear hg_ hnew_; (first | rw [← Ny1780.out] at ho4 | (simp only [Int.reduceToNat] at ho4; rw [← Ny1780.out] at ho4)); have n0_ := Aside0.mk (Kd.R_lower ho4 (below_size (by repeat (first | (with_reducible first | exact HB.out | apply below_alloc | apply pw_below_drewN | apply below_drew1) | exact HB.out)))); have n1_ := Aside0.mk (below_step (by repeat (first | (with_reducible first | exact HB.out | apply below_alloc | apply pw_below_drewN | apply below_drew1) | exact HB.out)) hb); clear HB; have HO1782 := n0_; have HB := n1_; clear n0_ n1_; clear hb ho4))
 go_loopg [5, 6] k (fun kq v5 v6 w' => ∃ (x5_1 : List (S26)) (x6_1 : Int), v6 = .int .i64 x6_1 ∧ Aside0 (spec_VoiceOf.l0 kq l0 a1 x5_1 x6_1 = some r) ∧ Aside0 (kq ≤ k) ∧ Aside0 (Kd.R k26 26 w' w.heap.size (fun _ => True) v5 x5_1) ∧ Aside0 (Below w.heap.size w w'))
 case atStart => exact ⟨(y1780), (0), (by first | rfl | (simp; done) | (simp [*]; done)), H', ⟨Nat.le_refl _⟩, ⟨by (with_reducible repeat (first | apply Kd.R_alloc | apply Kd.R_drewN | apply Kd.R_drew)); exact HO1782.out⟩, ⟨by repeat (first | (with_reducible first | exact HB.out | apply below_alloc | apply pw_below_drewN | apply below_drew1) | exact HB.out)⟩⟩
 case round =>
  clear H'
  try clear c1
  try clear p2
  obtain ⟨x5_1, x6_1, rfl, HA, HK1, HO_5, HB⟩ := hrel
  cases gk with
  | zero => exact absurd HA.out (by simp [spec_VoiceOf.l0])
  | succ k1 =>
   have H := HA.out
   clear HA
   simp only [spec_VoiceOf.l0] at H
   by_cases c5 : x6_1 < (l0.length : Int)
   ·
    rw [if_pos c5] at H
    have c5b0 : decide (x6_1 < (l0.length : Int)) = true := decide_eq_true c5
    clear c5
    by_cases c6 : 0 ≤ x6_1
    ·
     rw [if_pos c6] at H
     have c6b0 : decide (0 ≤ x6_1) = true := decide_eq_true c6
     clear c6
     by_cases c7 : ((rd_T26 l0 x6_1).f3) = a1
     ·
      rw [if_pos c7] at H
      have c7b0 : (((rd_T26 l0 x6_1).f3) == a1) = true := beq_iff_eq.mpr c7
      have c7b1 : (((rd_T26 l0 x6_1).f3) != a1) = false := bne_eq_false_iff_eq.mpr c7
      clear c7
      by_cases c8 : x5_1.length < 4398046511104
      ·
       rw [if_pos c8] at H
       have LMc8 := Aside0.mk c8
       clear c8
       obtain ⟨y1785, hy1785⟩ : ∃ y_ : List (S26), y_ = (x5_1 ++ [(⟨(rd_T26 l0 x6_1).f0, (rd_T26 l0 x6_1).f1, (rd_T26 l0 x6_1).f2, (rd_T26 l0 x6_1).f3⟩ : S26)]) := ⟨_, rfl⟩
       replace H : (spec_VoiceOf.l0 k1 l0 a1 y1785 (wrap64 (x6_1 + 1))) = some r := by first | (rw [hy1785]; with_reducible exact H) | (have H2_ := (Option.bind_some _ _).symm.trans H; rw [hy1785]; with_reducible exact H2_) | (have H2_ := (Option.bind_some _ _).symm.trans H; with_reducible exact H2_) | with_reducible exact H | (rw [hy1785]; exact H) | exact H
       have Ny1785 := Aside0.mk hy1785
       clear hy1785
       have H' := Aside0.mk H
       clear H
       have p1783 : 0 ≤ (x6_1 : Int) := of_decide_eq_true (by first | (with_reducible assumption) | assumption)
       have q1783 : x6_1 < (l0.length : Int) := of_decide_eq_true (by first | (with_reducible assumption) | assumption)
       obtain ⟨ad1783, e1783, hx1783_0, hx1783_1, hx1783_2, hx1783_3⟩ := at_T26 HR0.out x6_1 p1783 q1783
       cases e1783
       replace hx1783_0 := (HB.out.cell (World.block_lt_of_cell? w _ hx1783_0)).trans hx1783_0
       replace hx1783_1 := (HB.out.cell (World.block_lt_of_cell? w _ hx1783_1)).trans hx1783_1
       replace hx1783_2 := (HB.out.cell (World.block_lt_of_cell? w _ hx1783_2)).trans hx1783_2
       replace hx1783_3 := (HB.out.cell (World.block_lt_of_cell? w _ hx1783_3)).trans hx1783_3
       replace p1783 := eq_true p1783
       replace q1783 := eq_true q1783
       have p1784 : 0 ≤ (x6_1 : Int) := of_decide_eq_true (by first | (with_reducible assumption) | assumption)
       have q1784 : x6_1 < (l0.length : Int) := of_decide_eq_true (by first | (with_reducible assumption) | assumption)
       obtain ⟨ad1784, e1784, hx1784_0, hx1784_1, hx1784_2, hx1784_3⟩ := at_T26 HR0.out x6_1 p1784 q1784
       obtain rfl : ad1783 = ad1784 := (by injection e1784)
       replace hx1784_0 := (HB.out.cell (World.block_lt_of_cell? w _ hx1784_0)).trans hx1784_0
       replace hx1784_1 := (HB.out.cell (World.block_lt_of_cell? w _ hx1784_1)).trans hx1784_1
       replace hx1784_2 := (HB.out.cell (World.block_lt_of_cell? w _ hx1784_2)).trans hx1784_2
       replace hx1784_3 := (HB.out.cell (World.block_lt_of_cell? w _ hx1784_3)).trans hx1784_3
       replace p1784 := eq_true p1784
       replace q1784 := eq_true q1784
       go_wp2_with (first | ((with_reducible refine gate_builtin (b := .append) (xs := #[.tmp 21, .tmp 26]) rfl ?_); at_builtin; refine Kd.R_append k26 (w0 := w) w.heap.size rfl (.tmp 21) (.tmp 26) 24 26 (.agg #[(.int .i64 0), (.int .i64 0), (.int .i64 0), (.int .i64 0)]) 32 rfl Try.underlying24 info26 rfl (by decide) (by omega) u5 x5_1 (⟨(rd_T26 l0 x6_1).f0, (rd_T26 l0 x6_1).f1, (rd_T26 l0 x6_1).f2, (rd_T26 l0 x6_1).f3⟩ : S26) [.int .i64 ((rd_T26 l0 x6_1).f0), .int .i64 ((rd_T26 l0 x6_1).f1), .int .i64 ((rd_T26 l0 x6_1).f2), .int .i64 ((rd_T26 l0 x6_1).f3)] (fun _ => True) (fun _ => False) rfl rfl ?aP (fun _ hk => hk.elim) ?aF ?aO ?aB ?aS ?aL ?_; (case aP => exact k26_mkM _ _ _ (⟨(rd_T26 l0 x6_1).f0, (rd_T26 l0 x6_1).f1, (rd_T26 l0 x6_1).f2, (rd_T26 l0 x6_1).f3⟩ : S26)); (case aB => exact (by repeat (first | (with_reducible first | exact HB.out | apply below_alloc | apply pw_below_drewN | apply below_drew1) | exact HB.out))); (case aF => exact (fun _ _ => trivial)); (case aO => exact (by (with_reducible repeat (first | apply Kd.R_alloc | apply Kd.R_drewN | apply Kd.R_drew)); exact HO_5.out)); (case aS => exact (below_size (by repeat (first | (with_reducible first | exact HB.out | apply below_alloc | apply pw_below_drewN | apply below_drew1) | exact HB.out)))); (case aL => have := LMc8.out; omega); intro v1786 w9 ho hb hg hat; rw [← Ny1785.out] at ho; have n0_ := Aside0.mk (hb); have n1_ := Aside0.mk (ho); clear HB; clear HO_5; have HB := n0_; have HO1787 := n1_; clear n0_ n1_; clear ho hb hg hat))
       go_roundg k1
       case measure => have := HK1.out; omega
       case rel => exact ⟨(y1785), (wrap64 (x6_1 + 1)), (by first | rfl | (simp; done) | (simp [*]; done)), H', ⟨by have := HK1.out; omega⟩, ⟨by (with_reducible repeat (first | apply Kd.R_alloc | apply Kd.R_drewN | apply Kd.R_drew)); exact HO1787.out⟩, ⟨by repeat (first | (with_reducible first | exact HB.out | apply below_alloc | apply pw_below_drewN | apply below_drew1) | exact HB.out)⟩⟩
      ·
       rw [if_neg c8] at H
       exact absurd H (by simp)
     ·
      rw [if_neg c7] at H
      have c7b0 : (((rd_T26 l0 x6_1).f3) == a1) = false := beq_eq_false_iff_ne.mpr c7
      have c7b1 : (((rd_T26 l0 x6_1).f3) != a1) = true := bne_iff_ne.mpr c7
      have H' := Aside0.mk H
      clear H
      have p1783 : 0 ≤ (x6_1 : Int) := of_decide_eq_true (by first | (with_reducible assumption) | assumption)
      have q1783 : x6_1 < (l0.length : Int) := of_decide_eq_true (by first | (with_reducible assumption) | assumption)
      obtain ⟨ad1783, e1783, hx1783_0, hx1783_1, hx1783_2, hx1783_3⟩ := at_T26 HR0.out x6_1 p1783 q1783
      cases e1783
      replace hx1783_0 := (HB.out.cell (World.block_lt_of_cell? w _ hx1783_0)).trans hx1783_0
      replace hx1783_1 := (HB.out.cell (World.block_lt_of_cell? w _ hx1783_1)).trans hx1783_1
      replace hx1783_2 := (HB.out.cell (World.block_lt_of_cell? w _ hx1783_2)).trans hx1783_2
      replace hx1783_3 := (HB.out.cell (World.block_lt_of_cell? w _ hx1783_3)).trans hx1783_3
      replace p1783 := eq_true p1783
      replace q1783 := eq_true q1783
      go_wp2
      go_roundg k1
      case measure => have := HK1.out; omega
      case rel => exact ⟨(x5_1), (wrap64 (x6_1 + 1)), (by first | rfl | (simp; done) | (simp [*]; done)), H', ⟨by have := HK1.out; omega⟩, ⟨by (with_reducible repeat (first | apply Kd.R_alloc | apply Kd.R_drewN | apply Kd.R_drew)); exact HO_5.out⟩, ⟨by repeat (first | (with_reducible first | exact HB.out | apply below_alloc | apply pw_below_drewN | apply below_drew1) | exact HB.out)⟩⟩
    ·
     rw [if_neg c6] at H
     exact absurd H (by simp)
   ·
    rw [if_neg c5] at H
    have c5b0 : decide (x6_1 < (l0.length : Int)) = false := decide_eq_false c5
    clear c5
    obtain rfl := Option.some.inj H
    go_wp2
    go_ret
    exact ⟨_, by first | rfl | (simp [errW_none, errW_some] <;> rfl) | (simp [*, errW_none, errW_some] <;> rfl), by (with_reducible repeat (first | apply Kd.R_alloc | apply Kd.R_drewN | apply Kd.R_drew)); exact HO_5.out, by repeat (first | (with_reducible first | exact HB.out | apply below_alloc | apply pw_below_drewN | apply below_drew1) | exact HB.out)⟩
end Go.Proofs.Ytbhlmeghbfmgiaa.F

namespace Go.Proofs.Ytbhlmeghbfmgiaa.F
open Go.RowKit Go.Proofs.YtbhlmeghbfmgiaaW.PrintWords Go.Proofs.YtbhlmeghbfmgiaaW.PrintLast Go.Proofs.YtbhlmeghbfmgiaaW.PrintMore
attribute [local go_sem] max2_int min2_int max_two min_two max_three min_three max_four min_four
set_option linter.unusedVariables false
set_option linter.unusedSimpArgs false
mutual
def spec_PartFrom.l0 : Nat → List (S26) → Int → List (S111) → List (S26) → Int → Int → Option ((List (S111)) × Bool)
 | 0, _, _, _, _, _, _ => none
 | k + 1, x0, x2, x8, x9, x10, x11 => if x11 < (x9.length : Int) then ((spec_IsScore.f k x0).bind fun t1794 => (spec_PartFrom.j1 k x0 x2 x8 x9 x10 x11 t1794)) else (spec_PartFrom.j1 k x0 x2 x8 x9 x10 x11 false)
def spec_PartFrom.j1 : Nat → List (S26) → Int → List (S111) → List (S26) → Int → Int → Bool → Option ((List (S111)) × Bool)
 | 0, _, _, _, _, _, _, _ => none
 | k + 1, x0, x2, x8, x9, x10, x11, x23 => if x23 = true then (if 0 ≤ x11 then (if x11 < (x9.length : Int) then (if ((rd_T26 x9 x11).f0) < x10 then (some ((([] : List (S111))), false)) else (if ((rd_T26 x9 x11).f0) > x10 then (if x8.length < 5864062014805 then ((some (x8 ++ [(⟨x10, wrap64 (((rd_T26 x9 x11).f0) - x10), 0⟩ : S111)] : List (S111))).bind fun y1801 => (if y1801.length < 5864062014805 then (spec_PartFrom.l0 k x0 x2 (y1801 ++ [(⟨(rd_T26 x9 x11).f0, (rd_T26 x9 x11).f1, (rd_T26 x9 x11).f2⟩ : S111)]) x9 (wrap64 (((rd_T26 x9 x11).f0) + ((rd_T26 x9 x11).f1))) (wrap64 (x11 + 1))) else (none))) else (none)) else (if x8.length < 5864062014805 then (spec_PartFrom.l0 k x0 x2 (x8 ++ [(⟨(rd_T26 x9 x11).f0, (rd_T26 x9 x11).f1, (rd_T26 x9 x11).f2⟩ : S111)]) x9 (wrap64 (((rd_T26 x9 x11).f0) + ((rd_T26 x9 x11).f1))) (wrap64 (x11 + 1))) else (none)))) else (none)) else (none)) else ((spec_IsScore.f k x0).bind fun t1820 => (if t1820 = true then (if x2 < x10 then (spec_PartFrom.j2 k x2 x8 x10 true) else (spec_PartFrom.j2 k x2 x8 x10 (decide (x2 > 2096)))) else (spec_PartFrom.j2 k x2 x8 x10 true)))
def spec_PartFrom.j2 : Nat → Int → List (S111) → Int → Bool → Option ((List (S111)) × Bool)
 | 0, _, _, _, _ => none
 | k + 1, x2, x8, x10, x94 => if x94 = true then (some ((([] : List (S111))), false)) else (if x2 > x10 then (if x8.length < 5864062014805 then (some ((x8 ++ [(⟨x10, wrap64 (x2 - x10), 0⟩ : S111)]), true)) else (none)) else (some (x8, true)))
end
def spec_PartFrom.f (k : Nat) (l0 : List (S26)) (a1 : Int) (a2 : Int) : Option ((List (S111)) × Bool) := (spec_VoiceOf.f k l0 a1).bind fun t1791 => (spec_PartFrom.l0 k l0 a2 (([] : List (S111))) t1791 0 0)
def spec_PartFrom.T11 : Bool × List (List Nat × List Nat) := (true, [([], []), ([], []), ([], []), ([1, 2], [1, 2]), ([3], [3]), ([4], [4]), ([], []), ([], []), ([6, 7], [6, 7]), ([8], [8]), ([9], [9]), ([], []), ([], []), ([11, 12], [11, 12]), ([13], [13]), ([14], [14]), ([5, 10, 15], [5, 10, 15]), ([16], [16]), ([0, 17], [0, 17]), ([18, 18, 0, 1, 2, 3, 4, 5, 6, 7, 8, 9, 10, 11, 12, 13, 14, 15, 16, 17, 18], [0, 18])])
def spec_PartFrom.B11 : List Nat := [0, 0, 0, 6, 14, 30, 0, 0, 192, 448, 960, 0, 0, 6144, 14336, 30720, 65534, 131070, 262143, 524287]
theorem spec_PartFrom.tab11 : rtab .any (opsOf Try.f68 11) = spec_PartFrom.T11 := by kernel_rfl
theorem spec_PartFrom.bits11 : waitsOk spec_PartFrom.T11.2 spec_PartFrom.B11 = true := by kernel_rfl
def spec_PartFrom.T12 : Bool × List (List Nat × List Nat) := (true, [([], []), ([], []), ([0, 1], [0, 1]), ([2], [2]), ([3], [3]), ([], []), ([], []), ([5, 6], [5, 6]), ([7], [7]), ([8], [8]), ([4, 9], [4, 9]), ([10, 0, 1, 2, 3, 4, 5, 6, 7, 8, 9, 10], [10])])
def spec_PartFrom.B12 : List Nat := [0, 0, 3, 7, 15, 0, 0, 96, 224, 480, 1023, 2047]
theorem spec_PartFrom.tab12 : rtab .any (opsOf Try.f68 12) = spec_PartFrom.T12 := by kernel_rfl
theorem spec_PartFrom.bits12 : waitsOk spec_PartFrom.T12.2 spec_PartFrom.B12 = true := by kernel_rfl
set_option maxHeartbeats 8000000 in
set_option maxRecDepth 100000 in
theorem spec_PartFrom.calls (k : Nat) (A0 : Option Addr) (c0 : Nat) (l0 : List (S26)) (a1 : Int) (a2 : Int) (r1 : List (S111)) (r2 : Bool) (w : World) (hr0 : Kd.C k26 w A0 l0.length l0) (hc0 : l0.length ≤ c0) (h : spec_PartFrom.f k l0 a1 a2 = some (r1, r2)) :
  Calls Try.prog 68 #[.slice A0 l0.length c0, .int .i64 a1, .int .i64 a2] w fun e w' => ∃ v0_ : Value, e = .returned (.tuple #[v0_, .bool r2]) ∧ Kd.R k111 111 w' w.heap.size (fun _ => True) v0_ r1 ∧ Below w.heap.size w w' := by
 have hu111 := Try.underlying111
 have HR0 := Aside0.mk hr0
 have HC0 := Aside0.mk hc0
 clear hr0 hc0
 have HB := Aside0.mk (Below.refl w.heap.size w)
 have H : ((spec_VoiceOf.f k l0 a1).bind fun t1791 => (spec_PartFrom.l0 k l0 a2 (([] : List (S111))) t1791 0 0)) = some (r1, r2) := h
 clear h
 obtain ⟨y1788, hy1788⟩ : ∃ y_ : List (S111), y_ = (([] : List (S111))) := ⟨_, rfl⟩
 replace H : ((spec_VoiceOf.f k l0 a1).bind fun t1791 => (spec_PartFrom.l0 k l0 a2 y1788 t1791 0 0)) = some (r1, r2) := by first | (rw [hy1788]; with_reducible exact H) | (have H2_ := (Option.bind_some _ _).symm.trans H; rw [hy1788]; with_reducible exact H2_) | (have H2_ := (Option.bind_some _ _).symm.trans H; with_reducible exact H2_) | with_reducible exact H | (rw [hy1788]; exact H) | exact H
 have Ny1788 := Aside0.mk hy1788
 clear hy1788
 replace H := Option.bind_eq_some_iff.mp H
 obtain ⟨t1791, A40, H⟩ := H
 try dsimp only at H
 have A4 := Aside0.mk A40
 clear A40
 have H' := Aside0.mk H
 clear H
 go_enter Try.func68, Try.ntmps68
 go_wp2_with (first | ((with_reducible refine gate_dst (N := 12) rfl ?_); refine Kd.R_lit k111 _ 111 ?hg (N := 12) ?hd (xs := ([] : List (S111))) (inner := []) (ok := fun _ => True) (okp := fun _ => True) ?hr ?hp (fun _ hk => hk) trivial (Below.refl _ _) (Nat.le_refl _) (by simp) ?_; (case hd => rfl); (case hg => rfl); (case hr => first | (go_simp; done) | (go_simp; rfl)); (case hp => exact (Reps.none _ _)); intro v1789 w5 ho6 hb hg_ hnew_; clear hg_ hnew_; (first | rw [← Ny1788.out] at ho6 | (simp only [Int.reduceToNat] at ho6; rw [← Ny1788.out] at ho6)); have n0_ := Aside0.mk (Kd.R_lower ho6 (below_size (by repeat (first | (with_reducible first | exact HB.out | apply below_alloc | apply pw_below_drewN | apply below_drew1) | exact HB.out)))); have n1_ := Aside0.mk (below_step (by repeat (first | (with_reducible first | exact HB.out | apply below_alloc | apply pw_below_drewN | apply below_drew1) | exact HB.out)) hb); clear HB; have HO1790 := n0_; have HB := n1_; clear n0_ n1_; clear hb ho6) | ((with_reducible refine gate_callee (f := 127) rfl ?_); refine goesL_ (some 15) rfl rfl Try.func127 (by kernel_rfl) rfl #[.slice A0 l0.length c0, .int .i64 a1] rfl (by (try simp only [List.map_toArray, List.map_cons, List.map_nil]); first | done | rfl | (simp only [List.length_drop, List.length_take]; rfl)) ?_; (with_reducible refine (spec_VoiceOf.calls k _ _ l0 a1 t1791 _ ?side1 ?side2 A4.out).mono ?_); (case side1 => repeat (first | exact (Kd.C_below HR0.out HB.out) | (with_reducible refine Kd.C_alloc ?_ _) | (with_reducible refine Kd.C_drewN ?_ _) | (with_reducible refine Kd.C_drew ?_))); (case side2 => exact HC0.out); rintro e w7 ⟨v1792, rfl, ho0, hb⟩; refine ⟨_, rfl, ?_⟩; have n0_ := Aside0.mk (Kd.R_below (by (with_reducible repeat (first | apply Kd.R_alloc | apply Kd.R_drewN | apply Kd.R_drew)); exact HO1790.out) hb); have n1_ := Aside0.mk (Kd.R_lower ho0 (below_size (by repeat (first | (with_reducible first | exact HB.out | apply below_alloc | apply pw_below_drewN | apply below_drew1) | exact HB.out)))); have n2_ := Aside0.mk (below_step (by repeat (first | (with_reducible first | exact HB.out | apply below_alloc | apply pw_below_drewN | apply below_drew1) | exact HB.out)) hb); clear HO1790; clear HB; have HO1790 := n0_; have HO1793 := n1_; have HB := n2_; clear n0_ n1_ n2_; (try clear hb); (try clear hb2); (try clear hk); (try clear hi); (try clear ho0)))
 go_loopg [8, 10, 11] k (fun kq v8 v10 v11 w' => ∃ (x8_1 : List (S111)) (x10_1 : Int) (x11_1 : Int), v10 = .int .i64 x10_1 ∧ v11 = .int .i64 x11_1 ∧ Aside0 (spec_PartFrom.l0 kq l0 a2 x8_1 t1791 x10_1 x11_1 = some (r1, r2)) ∧ Aside0 (kq ≤ k) ∧ Aside0 (Kd.R k111 111 w' w.heap.size (fun _ => True) v8 x8_1) ∧ Aside0 (Kd.R k26 26 w' w.heap.size (fun _ => True) v1792 t1791) ∧ Aside0 (Below w.heap.size w w'))
 case atStart => exact ⟨(y1788), (0), (0), (by first | rfl | (simp; done) | (simp [*]; done)), (by first | rfl | (simp; done) | (simp [*]; done)), H', ⟨Nat.le_refl _⟩, ⟨by (with_reducible repeat (first | apply Kd.R_alloc | apply Kd.R_drewN | apply Kd.R_drew)); exact HO1790.out⟩, ⟨by (with_reducible repeat (first | apply Kd.R_alloc | apply Kd.R_drewN | apply Kd.R_drew)); exact HO1793.out⟩, ⟨by repeat (first | (with_reducible first | exact HB.out | apply below_alloc | apply pw_below_drewN | apply below_drew1) | exact HB.out)⟩⟩
 case round =>
  clear H'
  try clear c1
  try clear p2
  try clear c6
  obtain ⟨x8_1, x10_1, x11_1, rfl, rfl, HA, HK1, HO_8, HO_9, HB⟩ := hrel
  cases gk with
  | zero => exact absurd HA.out (by simp [spec_PartFrom.l0])
  | succ k1 =>
   have H := HA.out
   clear HA
   simp only [spec_PartFrom.l0] at H
   have HC8 := Aside0.mk H
   clear H
   go_upto_region 5 with (fail)
   go_cut [23] (fun v23 wc => ∃ (kq : Nat) (x23_7 : Bool), v23 = .bool x23_7 ∧ Aside0 (spec_PartFrom.j1 kq l0 a2 x8_1 t1791 x10_1 x11_1 x23_7 = some (r1, r2)) ∧ Aside0 (kq ≤ k1) ∧ Aside0 (Kd.R k111 111 wc w.heap.size (fun _ => True) u8 x8_1) ∧ Aside0 (Kd.R k26 26 wc w.heap.size (fun _ => True) v1792 t1791) ∧ Aside0 (Below w.heap.size w wc))
   case first =>
    have H := HC8.out
    clear HC8
    by_cases c9 : x11_1 < (t1791.length : Int)
    ·
     rw [if_pos c9] at H
     have c9b0 : decide (x11_1 < (t1791.length : Int)) = true := decide_eq_true c9
     clear c9
     (first | rw [c9b0] | (simp only [i64_w, i32_w]; rw [c9b0]) | skip)
     replace H := Option.bind_eq_some_iff.mp H
     obtain ⟨t1794, A100, H⟩ := H
     try dsimp only at H
     have A10 := Aside0.mk A100
     clear A100
     have H' := Aside0.mk H
     clear H
     obtain ⟨Ao11, co11, eo11⟩ := Kd.R_slice HO_9.out
     subst eo11
     go_wp2_with (first | (go_at_call 97; (with_reducible refine (spec_IsScore.calls k1 _ _ l0 t1794 _ ?side1 ?side2 A10.out).mono ?_); (case side1 => repeat (first | exact (Kd.C_below HR0.out HB.out) | (with_reducible refine Kd.C_alloc ?_ _) | (with_reducible refine Kd.C_drewN ?_ _) | (with_reducible refine Kd.C_drew ?_))); (case side2 => exact HC0.out); rintro e w12 ⟨rfl, hb⟩; have n0_ := Aside0.mk (Kd.R_below (by (with_reducible repeat (first | apply Kd.R_alloc | apply Kd.R_drewN | apply Kd.R_drew)); exact HO_8.out) hb); have n1_ := Aside0.mk (Kd.R_below (by (with_reducible repeat (first | apply Kd.R_alloc | apply Kd.R_drewN | apply Kd.R_drew)); exact HO_9.out) hb); have n2_ := Aside0.mk (below_step (by repeat (first | (with_reducible first | exact HB.out | apply below_alloc | apply pw_below_drewN | apply below_drew1) | exact HB.out)) hb); clear HO_8; clear HO_9; clear HB; have HO_8 := n0_; have HO_9 := n1_; have HB := n2_; clear n0_ n1_ n2_; (try clear hb); (try clear hb2); (try clear hk); (try clear hi)))
     go_meet
     case rel => exact ⟨_, (t1794), (by first | rfl | (simp; done) | (simp [*]; done)), H', ⟨by have := HK1.out; first | omega | exact Nat.le_refl _⟩, ⟨by (with_reducible repeat (first | apply Kd.R_alloc | apply Kd.R_drewN | apply Kd.R_drew)); exact HO_8.out⟩, ⟨by (with_reducible repeat (first | apply Kd.R_alloc | apply Kd.R_drewN | apply Kd.R_drew)); exact HO_9.out⟩, ⟨by repeat (first | (with_reducible first | exact HB.out | apply below_alloc | apply pw_below_drewN | apply below_drew1) | exact HB.out)⟩⟩
    ·
     rw [if_neg c9] at H
     have c9b0 : decide (x11_1 < (t1791.length : Int)) = false := decide_eq_false c9
     clear c9
     (first | rw [c9b0] | (simp only [i64_w, i32_w]; rw [c9b0]) | skip)
     have H' := Aside0.mk H
     clear H
     obtain ⟨Ao13, co13, eo13⟩ := Kd.R_slice HO_9.out
     subst eo13
     go_wp2
     go_meet
     case rel => exact ⟨_, (false), (by first | rfl | (simp; done) | (simp [*]; done)), H', ⟨by have := HK1.out; first | omega | exact Nat.le_refl _⟩, ⟨by (with_reducible repeat (first | apply Kd.R_alloc | apply Kd.R_drewN | apply Kd.R_drew)); exact HO_8.out⟩, ⟨by (with_reducible repeat (first | apply Kd.R_alloc | apply Kd.R_drewN | apply Kd.R_drew)); exact HO_9.out⟩, ⟨by repeat (first | (with_reducible first | exact HB.out | apply below_alloc | apply pw_below_drewN | apply below_drew1) | exact HB.out)⟩⟩
   case rest =>
    clear HC8
    try clear c1
    try clear p2
    try clear c6
    try clear c9
    try clear c9b0
    try clear c12
    try clear p2
    obtain ⟨kq, x23_7, rfl, HA, HJ7, HO_8, HO_9, HB⟩ := hcut
    cases kq with
    | zero => exact absurd HA.out (by simp [spec_PartFrom.j1])
    | succ kj7 =>
     have H := HA.out
     clear HA
     simp only [spec_PartFrom.j1] at H
     by_cases c14 : x23_7 = true
     ·
      subst c14
      rw [if_pos rfl] at H
      by_cases c15 : 0 ≤ x11_1
      ·
       rw [if_pos c15] at H
       have c15b0 : decide (0 ≤ x11_1) = true := decide_eq_true c15
       clear c15
       by_cases c16 : x11_1 < (t1791.length : Int)
       ·
        rw [if_pos c16] at H
        have c16b0 : decide (x11_1 < (t1791.length : Int)) = true := decide_eq_true c16
        clear c16
        by_cases c17 : ((rd_T26 t1791 x11_1).f0) < x10_1
        ·
         rw [if_pos c17] at H
         have c17b0 : decide (((rd_T26 t1791 x11_1).f0) < x10_1) = true := decide_eq_true c17
         clear c17
         obtain ⟨y1796, hy1796⟩ : ∃ y_ : List (S111), y_ = (([] : List (S111))) := ⟨_, rfl⟩
         replace H : (some (y1796, false)) = some (r1, r2) := by first | (rw [hy1796]; with_reducible exact H) | (have H2_ := (Option.bind_some _ _).symm.trans H; rw [hy1796]; with_reducible exact H2_) | (have H2_ := (Option.bind_some _ _).symm.trans H; with_reducible exact H2_) | with_reducible exact H | (rw [hy1796]; exact H) | exact H
         have Ny1796 := Aside0.mk hy1796
         clear hy1796
         simp only [Option.some.injEq, Prod.mk.injEq] at H
         obtain ⟨rfl, rfl⟩ := H
         obtain ⟨Ao18, co18, eo18⟩ := Kd.R_slice HO_9.out
         subst eo18
         have p1795 : 0 ≤ (x11_1 : Int) := of_decide_eq_true (by first | (with_reducible assumption) | assumption)
         have q1795 : x11_1 < (t1791.length : Int) := of_decide_eq_true (by first | (with_reducible assumption) | assumption)
         obtain ⟨ad1795, e1795, hx1795_0, hx1795_1, hx1795_2, hx1795_3⟩ := at_T26 (Kd.R_reads' HO_9.out).2.2 x11_1 p1795 q1795
         cases e1795
         replace p1795 := eq_true p1795
         replace q1795 := eq_true q1795
         go_wp2_with (first | ((with_reducible refine gate_dst (N := 33) rfl ?_); refine Kd.R_lit k111 _ 111 ?hg (N := 33) ?hd (xs := ([] : List (S111))) (inner := []) (ok := fun _ => True) (okp := fun _ => True) ?hr ?hp (fun _ hk => hk) trivial (Below.refl _ _) (Nat.le_refl _) (by simp) ?_; (case hd => rfl); (case hg => rfl); (case hr => first | (go_simp; done) | (go_simp; rfl)); (case hp => exact (Reps.none _ _)); intro v1797 w19 ho20 hb hg_ hnew_; clear hg_ hnew_; (first | rw [← Ny1796.out] at ho20 | (simp only [Int.reduceToNat] at ho20; rw [← Ny1796.out] at ho20)); have n0_ := Aside0.mk (Kd.R_elder' (by (with_reducible repeat (first | apply Kd.R_alloc | apply Kd.R_drewN | apply Kd.R_drew)); exact HO_8.out) (Kd.R_base ho20) hb); have n1_ := Aside0.mk (Kd.R_below (by (with_reducible repeat (first | apply Kd.R_alloc | apply Kd.R_drewN | apply Kd.R_drew)); exact HO_9.out) hb); have n2_ := Aside0.mk (Kd.R_lower (Kd.R_new' ho20 (Kd.R_lt (by (with_reducible repeat (first | apply Kd.R_alloc | apply Kd.R_drewN | apply Kd.R_drew)); exact HO_8.out))) (below_size (by repeat (first | (with_reducible first | exact HB.out | apply below_alloc | apply pw_below_drewN | apply below_drew1) | exact HB.out)))); have n3_ := Aside0.mk (below_step (by repeat (first | (with_reducible first | exact HB.out | apply below_alloc | apply pw_below_drewN | apply below_drew1) | exact HB.out)) hb); clear HO_8; clear HO_9; clear HB; have HO_8 := n0_; have HO_9 := n1_; have HO1798 := n2_; have HB := n3_; clear n0_ n1_ n2_ n3_; clear hb ho20))
         go_ret2
         exact ⟨_, by first | rfl | (simp [errW_none, errW_some] <;> rfl) | (simp [*, errW_none, errW_some] <;> rfl), by (with_reducible repeat (first | apply Kd.R_alloc | apply Kd.R_drewN | apply Kd.R_drew)); exact Kd.R_mono HO1798.out (fun _ hk => trivial), by repeat (first | (with_reducible first | exact HB.out | apply below_alloc | apply pw_below_drewN | apply below_drew1) | exact HB.out)⟩
        ·
         rw [if_neg c17] at H
         have c17b0 : decide (((rd_T26 t1791 x11_1).f0) < x10_1) = false := decide_eq_false c17
         clear c17
         by_cases c21 : ((rd_T26 t1791 x11_1).f0) > x10_1
         ·
          rw [if_pos c21] at H
          have c21b0 : decide (x10_1 < ((rd_T26 t1791 x11_1).f0)) = true := decide_eq_true c21
          clear c21
          by_cases c22 : x8_1.length < 5864062014805
          ·
           rw [if_pos c22] at H
           have LMc22 := Aside0.mk c22
           clear c22
           obtain ⟨y1801, hy1801⟩ : ∃ y_ : List (S111), y_ = (x8_1 ++ [(⟨x10_1, wrap64 (((rd_T26 t1791 x11_1).f0) - x10_1), 0⟩ : S111)]) := ⟨_, rfl⟩
           replace H : (if y1801.length < 5864062014805 then (spec_PartFrom.l0 kj7 l0 a2 (y1801 ++ [(⟨(rd_T26 t1791 x11_1).f0, (rd_T26 t1791 x11_1).f1, (rd_T26 t1791 x11_1).f2⟩ : S111)]) t1791 (wrap64 (((rd_T26 t1791 x11_1).f0) + ((rd_T26 t1791 x11_1).f1))) (wrap64 (x11_1 + 1))) else (none)) = some (r1, r2) := by first | (rw [hy1801]; with_reducible exact H) | (have H2_ := (Option.bind_some _ _).symm.trans H; rw [hy1801]; with_reducible exact H2_) | (have H2_ := (Option.bind_some _ _).symm.trans H; with_reducible exact H2_) | with_reducible exact H | (rw [hy1801]; exact H) | exact H
           have Ny1801 := Aside0.mk hy1801
           clear hy1801
           by_cases c23 : y1801.length < 5864062014805
           ·
            rw [if_pos c23] at H
            have LMc23 := Aside0.mk c23
            clear c23
            obtain ⟨y1807, hy1807⟩ : ∃ y_ : List (S111), y_ = (y1801 ++ [(⟨(rd_T26 t1791 x11_1).f0, (rd_T26 t1791 x11_1).f1, (rd_T26 t1791 x11_1).f2⟩ : S111)]) := ⟨_, rfl⟩
            replace H : (spec_PartFrom.l0 kj7 l0 a2 y1807 t1791 (wrap64 (((rd_T26 t1791 x11_1).f0) + ((rd_T26 t1791 x11_1).f1))) (wrap64 (x11_1 + 1))) = some (r1, r2) := by first | (rw [hy1807]; with_reducible exact H) | (have H2_ := (Option.bind_some _ _).symm.trans H; rw [hy1807]; with_reducible exact H2_) | (have H2_ := (Option.bind_some _ _).symm.trans H; with_reducible exact H2_) | with_reducible exact H | (rw [hy1807]; exact H) | exact H
            have Ny1807 := Aside0.mk hy1807
            clear hy1807
            have H' := Aside0.mk H
            clear H
            obtain ⟨Ao24, co24, eo24⟩ := Kd.R_slice HO_9.out
            subst eo24
            have p1795 : 0 ≤ (x11_1 : Int) := of_decide_eq_true (by first | (with_reducible assumption) | assumption)
            have q1795 : x11_1 < (t1791.length : Int) := of_decide_eq_true (by first | (with_reducible assumption) | assumption)
            obtain ⟨ad1795, e1795, hx1795_0, hx1795_1, hx1795_2, hx1795_3⟩ := at_T26 (Kd.R_reads' HO_9.out).2.2 x11_1 p1795 q1795
            cases e1795
            replace p1795 := eq_true p1795
            replace q1795 := eq_true q1795
            have p1799 : 0 ≤ (x11_1 : Int) := of_decide_eq_true (by first | (with_reducible assumption) | assumption)
            have q1799 : x11_1 < (t1791.length : Int) := of_decide_eq_true (by first | (with_reducible assumption) | assumption)
            obtain ⟨ad1799, e1799, hx1799_0, hx1799_1, hx1799_2, hx1799_3⟩ := at_T26 (Kd.R_reads' HO_9.out).2.2 x11_1 p1799 q1799
            obtain rfl : ad1795 = ad1799 := (by injection e1799)
            replace p1799 := eq_true p1799
            replace q1799 := eq_true q1799
            have p1800 : 0 ≤ (x11_1 : Int) := of_decide_eq_true (by first | (with_reducible assumption) | assumption)
            have q1800 : x11_1 < (t1791.length : Int) := of_decide_eq_true (by first | (with_reducible assumption) | assumption)
            obtain ⟨ad1800, e1800, hx1800_0, hx1800_1, hx1800_2, hx1800_3⟩ := at_T26 (Kd.R_reads' HO_9.out).2.2 x11_1 p1800 q1800
            obtain rfl : ad1795 = ad1800 := (by injection e1800)
            replace p1800 := eq_true p1800
            replace q1800 := eq_true q1800
            try go_wp2_with (first | ((with_reducible refine gate_builtin (b := .append) (xs := #[.tmp 41, .tmp 51]) rfl ?_); at_builtin; refine Kd.R_append k111 (w0 := w) w.heap.size rfl (.tmp 41) (.tmp 51) 107 111 (.agg #[(.int .i64 0), (.int .i64 0), (.int .i64 0)]) 24 rfl Try.underlying107 info111 rfl (by decide) (by omega) u8 x8_1 (⟨x10_1, wrap64 (((rd_T26 t1791 x11_1).f0) - x10_1), 0⟩ : S111) [.int .i64 x10_1, .int .i64 (wrap64 (((rd_T26 t1791 x11_1).f0) - x10_1)), .int .i64 0] (fun _ => True) (fun _ => False) rfl rfl ?aP (fun _ hk => hk.elim) ?aF ?aO ?aB ?aS ?aL ?_; (case aP => exact k111_mkM _ _ _ (⟨x10_1, wrap64 (((rd_T26 t1791 x11_1).f0) - x10_1), 0⟩ : S111)); (case aB => exact (by repeat (first | (with_reducible first | exact HB.out | apply below_alloc | apply pw_below_drewN | apply below_drew1) | exact HB.out))); (case aF => exact (fun _ _ => trivial)); (case aO => exact (by (with_reducible repeat (first | apply Kd.R_alloc | apply Kd.R_drewN | apply Kd.R_drew)); exact HO_8.out)); (case aS => exact (below_size (by repeat (first | (with_reducible first | exact HB.out | apply below_alloc | apply pw_below_drewN | apply below_drew1) | exact HB.out)))); (case aL => have := LMc22.out; omega); intro v1802 w25 ho hb hg hat; rw [← Ny1801.out] at ho; have n0_ := Aside0.mk (Kd.R_over' (by (with_reducible repeat (first | apply Kd.R_alloc | apply Kd.R_drewN | apply Kd.R_drew)); exact HO_9.out) (Kd.R_typed (by (with_reducible repeat (first | apply Kd.R_alloc | apply Kd.R_drewN | apply Kd.R_drew)); exact HO_8.out)) (by decide) hg); have n1_ := Aside0.mk (hb); have n2_ := Aside0.mk (ho); clear HO_9; clear HB; clear HO_8; have HO_9 := n0_; have HB := n1_; have HO1803 := n2_; clear n0_ n1_ n2_; clear ho hb hg hat))
            have n0_ := Aside0.mk (Kd.R_drew HO_9.out)
            have n1_ := Aside0.mk (Kd.R_drew HO1803.out)
            have n2_ := Aside0.mk (below_drew1 HB.out)
            clear HO_9
            clear HO1803
            clear HB
            have HO_9 := n0_
            have HO1803 := n1_
            have HB := n2_
            clear n0_ n1_ n2_
            have p1804 : 0 ≤ (x11_1 : Int) := of_decide_eq_true (by first | (with_reducible assumption) | assumption)
            have q1804 : x11_1 < (t1791.length : Int) := of_decide_eq_true (by first | (with_reducible assumption) | assumption)
            obtain ⟨ad1804, e1804, hx1804_0, hx1804_1, hx1804_2, hx1804_3⟩ := at_T26 (Kd.R_reads' HO_9.out).2.2 x11_1 p1804 q1804
            obtain rfl : ad1795 = ad1804 := (by injection e1804)
            replace p1804 := eq_true p1804
            replace q1804 := eq_true q1804
            have p1805 : 0 ≤ (x11_1 : Int) := of_decide_eq_true (by first | (with_reducible assumption) | assumption)
            have q1805 : x11_1 < (t1791.length : Int) := of_decide_eq_true (by first | (with_reducible assumption) | assumption)
            obtain ⟨ad1805, e1805, hx1805_0, hx1805_1, hx1805_2, hx1805_3⟩ := at_T26 (Kd.R_reads' HO_9.out).2.2 x11_1 p1805 q1805
            obtain rfl : ad1795 = ad1805 := (by injection e1805)
            replace p1805 := eq_true p1805
            replace q1805 := eq_true q1805
            have p1806 : 0 ≤ (x11_1 : Int) := of_decide_eq_true (by first | (with_reducible assumption) | assumption)
            have q1806 : x11_1 < (t1791.length : Int) := of_decide_eq_true (by first | (with_reducible assumption) | assumption)
            obtain ⟨ad1806, e1806, hx1806_0, hx1806_1, hx1806_2, hx1806_3⟩ := at_T26 (Kd.R_reads' HO_9.out).2.2 x11_1 p1806 q1806
            obtain rfl : ad1795 = ad1806 := (by injection e1806)
            replace p1806 := eq_true p1806
            replace q1806 := eq_true q1806
            refine start_ (n := 20) (S := fun w' => w'.cell? (ad1795.add ((x11_1).toNat * 4)) = some (.int .i64 ((rd_T26 t1791 x11_1).f0)) ∧ w'.cell? ⟨(ad1795.add ((x11_1).toNat * 4)).block, (ad1795.add ((x11_1).toNat * 4)).off + 1, none⟩ = some (.int .i64 ((rd_T26 t1791 x11_1).f1)) ∧ w'.cell? ⟨(ad1795.add ((x11_1).toNat * 4)).block, (ad1795.add ((x11_1).toNat * 4)).off + 2, none⟩ = some (.int .i64 ((rd_T26 t1791 x11_1).f2)) ∧ w'.cell? ⟨(ad1795.add ((x11_1).toNat * 4)).block, (ad1795.add ((x11_1).toNat * 4)).off + 3, none⟩ = some (.int .i64 ((rd_T26 t1791 x11_1).f3)) ∧ w'.cell? (ad1795.add ((x11_1).toNat * 4)) = some (.int .i64 ((rd_T26 t1791 x11_1).f0)) ∧ w'.cell? ⟨(ad1795.add ((x11_1).toNat * 4)).block, (ad1795.add ((x11_1).toNat * 4)).off + 1, none⟩ = some (.int .i64 ((rd_T26 t1791 x11_1).f1)) ∧ w'.cell? ⟨(ad1795.add ((x11_1).toNat * 4)).block, (ad1795.add ((x11_1).toNat * 4)).off + 2, none⟩ = some (.int .i64 ((rd_T26 t1791 x11_1).f2)) ∧ w'.cell? ⟨(ad1795.add ((x11_1).toNat * 4)).block, (ad1795.add ((x11_1).toNat * 4)).off + 3, none⟩ = some (.int .i64 ((rd_T26 t1791 x11_1).f3)) ∧ w'.cell? (ad1795.add ((x11_1).toNat * 4)) = some (.int .i64 ((rd_T26 t1791 x11_1).f0)) ∧ w'.cell? ⟨(ad1795.add ((x11_1).toNat * 4)).block, (ad1795.add ((x11_1).toNat * 4)).off + 1, none⟩ = some (.int .i64 ((rd_T26 t1791 x11_1).f1)) ∧ w'.cell? ⟨(ad1795.add ((x11_1).toNat * 4)).block, (ad1795.add ((x11_1).toNat * 4)).off + 2, none⟩ = some (.int .i64 ((rd_T26 t1791 x11_1).f2)) ∧ w'.cell? ⟨(ad1795.add ((x11_1).toNat * 4)).block, (ad1795.add ((x11_1).toNat * 4)).off + 3, none⟩ = some (.int .i64 ((rd_T26 t1791 x11_1).f3))) (ds := [17, 18]) #[false, false, false, false, false, false, false, false, false, false, false, false, false, false, false, false, false, false, false, false] (by kernel_rfl) rfl rfl ⟨hx1804_0, hx1804_1, hx1804_2, hx1804_3, hx1805_0, hx1805_1, hx1805_2, hx1805_3, hx1806_0, hx1806_1, hx1806_2, hx1806_3⟩ (fun hHeld => ?_); refine with_tabW spec_PartFrom.tab11 spec_PartFrom.bits11 (fun HT_ HW_ => ?_)
            generalize w25.drew = w26 at HO_9 HO1803 HB hx1804_0 hx1804_1 hx1804_2 hx1804_3 hx1805_0 hx1805_1 hx1805_2 hx1805_3 hx1806_0 hx1806_1 hx1806_2 hx1806_3 hHeld ⊢
            refine pure_ (i := 0) (N := some 53) (v := ?_) (a' := ?_) #[true, false, false, false, false, false, false, false, false, false, false, false, false, false, false, false, false, false, false, false] rfl rfl (any_of HT_.out (by kernel_rfl)) (fun _ _ _ h => h) (Or.inl ⟨by rfl, ?_⟩) ?_ ?_
            rotate_left
            ·
             intro w'
             go_simp
             with_reducible rfl
            rotate_left
            ·
             simp only [Act.put, List.setIfInBounds_toArray, List.set_cons_zero, List.set_cons_succ, i64_w, i32_w]
             rfl
            refine pure_ (i := 1) (N := some 54) (v := ?_) (a' := ?_) #[true, true, false, false, false, false, false, false, false, false, false, false, false, false, false, false, false, false, false, false] rfl rfl (any_of HT_.out (by kernel_rfl)) (fun _ _ _ h => h) (Or.inl ⟨by rfl, ?_⟩) ?_ ?_
            rotate_left
            ·
             intro w'
             go_simp
             with_reducible rfl
            rotate_left
            ·
             simp only [Act.put, List.setIfInBounds_toArray, List.set_cons_zero, List.set_cons_succ, i64_w, i32_w]
             rfl
            refine pure_ (i := 2) (N := some 55) (v := ?_) (a' := ?_) #[true, true, true, false, false, false, false, false, false, false, false, false, false, false, false, false, false, false, false, false] rfl rfl (any_of HT_.out (by kernel_rfl)) (fun _ _ _ h => h) (Or.inl ⟨by rfl, ?_⟩) ?_ ?_
            rotate_left
            ·
             intro w'
             go_simp
             with_reducible rfl
            rotate_left
            ·
             simp only [Act.put, List.setIfInBounds_toArray, List.set_cons_zero, List.set_cons_succ, i64_w, i32_w]
             rfl
            refine pure_ (i := 3) (N := some 56) (v := ?_) (a' := ?_) #[true, true, true, true, false, false, false, false, false, false, false, false, false, false, false, false, false, false, false, false] rfl rfl (any_of HT_.out (by kernel_rfl)) (fun _ _ _ h => h) (Or.inl ⟨by rfl, ?_⟩) ?_ ?_
            rotate_left
            ·
             intro w'
             go_simp
             with_reducible rfl
            rotate_left
            ·
             simp only [Act.put, List.setIfInBounds_toArray, List.set_cons_zero, List.set_cons_succ, i64_w, i32_w]
             rfl
            refine pure_ (i := 4) (N := some 57) (v := ?_) (a' := ?_) #[true, true, true, true, true, false, false, false, false, false, false, false, false, false, false, false, false, false, false, false] rfl rfl (any_of HT_.out (by kernel_rfl)) (fun _ _ _ h => h) (Or.inl ⟨by rfl, ?_⟩) ?_ ?_
            rotate_left
            ·
             intro w'
             go_simp
             with_reducible rfl
            rotate_left
            ·
             simp only [Act.put, List.setIfInBounds_toArray, List.set_cons_zero, List.set_cons_succ, i64_w, i32_w]
             rfl
            refine pure_ (i := 6) (N := some 59) (v := ?_) (a' := ?_) #[true, true, true, true, true, false, true, false, false, false, false, false, false, false, false, false, false, false, false, false] rfl rfl (any_of HT_.out (by kernel_rfl)) (fun _ _ _ h => h) (Or.inl ⟨by rfl, ?_⟩) ?_ ?_
            rotate_left
            ·
             intro w'
             go_simp
             with_reducible rfl
            rotate_left
            ·
             simp only [Act.put, List.setIfInBounds_toArray, List.set_cons_zero, List.set_cons_succ, i64_w, i32_w]
             rfl
            refine pure_ (i := 7) (N := some 60) (v := ?_) (a' := ?_) #[true, true, true, true, true, false, true, true, false, false, false, false, false, false, false, false, false, false, false, false] rfl rfl (any_of HT_.out (by kernel_rfl)) (fun _ _ _ h => h) (Or.inl ⟨by rfl, ?_⟩) ?_ ?_
            rotate_left
            ·
             intro w'
             go_simp
             with_reducible rfl
            rotate_left
            ·
             simp only [Act.put, List.setIfInBounds_toArray, List.set_cons_zero, List.set_cons_succ, i64_w, i32_w]
             rfl
            refine pure_ (i := 8) (N := some 61) (v := ?_) (a' := ?_) #[true, true, true, true, true, false, true, true, true, false, false, false, false, false, false, false, false, false, false, false] rfl rfl (any_of HT_.out (by kernel_rfl)) (fun _ _ _ h => h) (Or.inl ⟨by rfl, ?_⟩) ?_ ?_
            rotate_left
            ·
             intro w'
             go_simp
             with_reducible rfl
            rotate_left
            ·
             simp only [Act.put, List.setIfInBounds_toArray, List.set_cons_zero, List.set_cons_succ, i64_w, i32_w]
             rfl
            refine pure_ (i := 9) (N := some 62) (v := ?_) (a' := ?_) #[true, true, true, true, true, false, true, true, true, true, false, false, false, false, false, false, false, false, false, false] rfl rfl (any_of HT_.out (by kernel_rfl)) (fun _ _ _ h => h) (Or.inl ⟨by rfl, ?_⟩) ?_ ?_
            rotate_left
            ·
             intro w'
             go_simp
             with_reducible rfl
            rotate_left
            ·
             simp only [Act.put, List.setIfInBounds_toArray, List.set_cons_zero, List.set_cons_succ, i64_w, i32_w]
             rfl
            refine pure_ (i := 11) (N := some 64) (v := ?_) (a' := ?_) #[true, true, true, true, true, false, true, true, true, true, false, true, false, false, false, false, false, false, false, false] rfl rfl (any_of HT_.out (by kernel_rfl)) (fun _ _ _ h => h) (Or.inl ⟨by rfl, ?_⟩) ?_ ?_
            rotate_left
            ·
             intro w'
             go_simp
             with_reducible rfl
            rotate_left
            ·
             simp only [Act.put, List.setIfInBounds_toArray, List.set_cons_zero, List.set_cons_succ, i64_w, i32_w]
             rfl
            refine pure_ (i := 12) (N := some 65) (v := ?_) (a' := ?_) #[true, true, true, true, true, false, true, true, true, true, false, true, true, false, false, false, false, false, false, false] rfl rfl (any_of HT_.out (by kernel_rfl)) (fun _ _ _ h => h) (Or.inl ⟨by rfl, ?_⟩) ?_ ?_
            rotate_left
            ·
             intro w'
             go_simp
             with_reducible rfl
            rotate_left
            ·
             simp only [Act.put, List.setIfInBounds_toArray, List.set_cons_zero, List.set_cons_succ, i64_w, i32_w]
             rfl
            refine pure_ (i := 13) (N := some 66) (v := ?_) (a' := ?_) #[true, true, true, true, true, false, true, true, true, true, false, true, true, true, false, false, false, false, false, false] rfl rfl (any_of HT_.out (by kernel_rfl)) (fun _ _ _ h => h) (Or.inl ⟨by rfl, ?_⟩) ?_ ?_
            rotate_left
            ·
             intro w'
             go_simp
             with_reducible rfl
            rotate_left
            ·
             simp only [Act.put, List.setIfInBounds_toArray, List.set_cons_zero, List.set_cons_succ, i64_w, i32_w]
             rfl
            refine pure_ (i := 14) (N := some 67) (v := ?_) (a' := ?_) #[true, true, true, true, true, false, true, true, true, true, false, true, true, true, true, false, false, false, false, false] rfl rfl (any_of HT_.out (by kernel_rfl)) (fun _ _ _ h => h) (Or.inl ⟨by rfl, ?_⟩) ?_ ?_
            rotate_left
            ·
             intro w'
             go_simp
             with_reducible rfl
            rotate_left
            ·
             simp only [Act.put, List.setIfInBounds_toArray, List.set_cons_zero, List.set_cons_succ, i64_w, i32_w]
             rfl
            refine take_ (i := 5) (N := some 58) (v := ?_) (a' := ?_) #[true, true, true, true, true, true, true, true, true, true, false, true, true, true, true, false, false, false, false, false] rfl rfl (take_ofW HT_.out HW_.out (by kernel_rfl)) (fun _ _ _ h => h) (Or.inl ⟨by rfl, ?_⟩) hHeld ?_ ?_
            rotate_left
            ·
             rintro w' ⟨s0, s1, s2, s3, s4, s5, s6, s7, s8, s9, s10, s11⟩
             go_simp
             with_reducible rfl
            rotate_left
            ·
             simp only [Act.put, List.setIfInBounds_toArray, List.set_cons_zero, List.set_cons_succ, i64_w, i32_w]
             rfl
            refine take_ (i := 10) (N := some 63) (v := ?_) (a' := ?_) #[true, true, true, true, true, true, true, true, true, true, true, true, true, true, true, false, false, false, false, false] rfl rfl (take_ofW HT_.out HW_.out (by kernel_rfl)) (fun _ _ _ h => h) (Or.inl ⟨by rfl, ?_⟩) hHeld ?_ ?_
            rotate_left
            ·
             rintro w' ⟨s0, s1, s2, s3, s4, s5, s6, s7, s8, s9, s10, s11⟩
             go_simp
             with_reducible rfl
            rotate_left
            ·
             simp only [Act.put, List.setIfInBounds_toArray, List.set_cons_zero, List.set_cons_succ, i64_w, i32_w]
             rfl
            refine take_ (i := 15) (N := some 68) (v := ?_) (a' := ?_) #[true, true, true, true, true, true, true, true, true, true, true, true, true, true, true, true, false, false, false, false] rfl rfl (take_ofW HT_.out HW_.out (by kernel_rfl)) (fun _ _ _ h => h) (Or.inl ⟨by rfl, ?_⟩) hHeld ?_ ?_
            rotate_left
            ·
             rintro w' ⟨s0, s1, s2, s3, s4, s5, s6, s7, s8, s9, s10, s11⟩
             go_simp
             with_reducible rfl
            rotate_left
            ·
             simp only [Act.put, List.setIfInBounds_toArray, List.set_cons_zero, List.set_cons_succ, i64_w, i32_w]
             rfl
            refine pure_ (i := 16) (N := some 69) (v := ?_) (a' := ?_) #[true, true, true, true, true, true, true, true, true, true, true, true, true, true, true, true, true, false, false, false] rfl rfl (any_of HT_.out (by kernel_rfl)) (fun _ _ _ h => h) (Or.inl ⟨by rfl, ?_⟩) ?_ ?_
            rotate_left
            ·
             intro w'
             go_simp
             with_reducible rfl
            rotate_left
            ·
             simp only [Act.put, List.setIfInBounds_toArray, List.set_cons_zero, List.set_cons_succ, i64_w, i32_w]
             rfl
            refine last_ (i := 17) (N := some 70) #[true, true, true, true, true, true, true, true, true, true, true, true, true, true, true, true, true, true, false, false] rfl rfl (one_of HT_.out (by kernel_rfl)) (by decide) (fun K hK => ?_)
            refine value_ (w1 := ?_) (v := ?_) (by rfl) rfl ?_ ?_
            rotate_left 2
            ·
             go_simp
             constructor
             ·
              rfl
             ·
              rfl
            refine hK.out _ _ ?_
            clear hK K
            refine norm_ (a' := ?_) ?_ ?_
            rotate_left
            ·
             show Act.put _ (some 70) _ = _
             simp only [Act.put, List.setIfInBounds_toArray, List.set_cons_zero, List.set_cons_succ, i64_w, i32_w]
             rfl
            refine last_ (i := 18) (N := some 71) #[true, true, true, true, true, true, true, true, true, true, true, true, true, true, true, true, true, true, true, false] rfl rfl (one_of HT_.out (by kernel_rfl)) (by decide) (fun K hK => ?_)
            refine Kd.R_append_step k111 (w0 := w) w.heap.size (by rfl) (.tmp 53) (.tmp 70) 107 111 (.agg #[(.int .i64 0), (.int .i64 0), (.int .i64 0)]) 24 rfl Try.underlying107 info111 rfl (by decide) (by omega) v1802 y1801 (⟨(rd_T26 t1791 x11_1).f0, (rd_T26 t1791 x11_1).f1, (rd_T26 t1791 x11_1).f2⟩ : S111) [.int .i64 ((rd_T26 t1791 x11_1).f0), .int .i64 ((rd_T26 t1791 x11_1).f1), .int .i64 ((rd_T26 t1791 x11_1).f2)] (fun _ => True) (fun _ => False) rfl rfl ?aP (fun _ hk => hk.elim) ?aF ?aO ?aB ?aS ?aL ?_
            (case aP => exact k111_mkM _ _ _ (⟨(rd_T26 t1791 x11_1).f0, (rd_T26 t1791 x11_1).f1, (rd_T26 t1791 x11_1).f2⟩ : S111))
            (case aB => exact (by repeat (first | (with_reducible first | exact HB.out | apply below_alloc | apply pw_below_drewN | apply below_drew1) | exact HB.out)))
            (case aF => exact (fun _ _ => trivial))
            (case aO => exact (by (with_reducible repeat (first | apply Kd.R_alloc | apply Kd.R_drewN | apply Kd.R_drew)); exact HO1803.out))
            (case aS => exact (below_size (by repeat (first | (with_reducible first | exact HB.out | apply below_alloc | apply pw_below_drewN | apply below_drew1) | exact HB.out))))
            (case aL => have := LMc23.out; omega)
            intro v1808 w27 ho hb hg hat
            rw [← Ny1807.out] at ho
            have n0_ := Aside0.mk (Kd.R_over' (by (with_reducible repeat (first | apply Kd.R_alloc | apply Kd.R_drewN | apply Kd.R_drew)); exact HO_9.out) (Kd.R_typed (by (with_reducible repeat (first | apply Kd.R_alloc | apply Kd.R_drewN | apply Kd.R_drew)); exact HO1803.out)) (by decide) hg)
            have n1_ := Aside0.mk (hb)
            have n2_ := Aside0.mk (ho)
            clear HO_9
            clear HB
            clear HO1803
            have HO_9 := n0_
            have HB := n1_
            have HO1809 := n2_
            clear n0_ n1_ n2_
            clear ho hb hg hat
            refine hK.out _ _ ?_
            clear hK K
            refine norm_ (a' := ?_) ?_ ?_
            rotate_left
            ·
             show Act.put _ (some 71) _ = _
             simp only [Act.put, List.setIfInBounds_toArray, List.set_cons_zero, List.set_cons_succ, i64_w, i32_w]
             rfl
            refine pure_ (i := 19) (N := some 8) (v := ?_) (a' := ?_) #[true, true, true, true, true, true, true, true, true, true, true, true, true, true, true, true, true, true, true, true] rfl rfl (any_of HT_.out (by kernel_rfl)) (fun _ _ _ h => h) (Or.inl ⟨by rfl, ?_⟩) ?_ ?_
            rotate_left
            ·
             intro w'
             go_simp
             with_reducible rfl
            rotate_left
            ·
             simp only [Act.put, List.setIfInBounds_toArray, List.set_cons_zero, List.set_cons_succ, i64_w, i32_w]
             rfl
            refine done_ (done_of HT_.out (by kernel_rfl)) ?_
            try go_wp2
            have n0_ := Aside0.mk (Kd.R_drew HO_9.out)
            have n1_ := Aside0.mk (Kd.R_drew HO1809.out)
            have n2_ := Aside0.mk (below_drew1 HB.out)
            clear HO_9
            clear HO1809
            clear HB
            have HO_9 := n0_
            have HO1809 := n1_
            have HB := n2_
            clear n0_ n1_ n2_
            have p1810 : 0 ≤ (x11_1 : Int) := of_decide_eq_true (by first | (with_reducible assumption) | assumption)
            have q1810 : x11_1 < (t1791.length : Int) := of_decide_eq_true (by first | (with_reducible assumption) | assumption)
            obtain ⟨ad1810, e1810, hx1810_0, hx1810_1, hx1810_2, hx1810_3⟩ := at_T26 (Kd.R_reads' HO_9.out).2.2 x11_1 p1810 q1810
            obtain rfl : ad1795 = ad1810 := (by injection e1810)
            replace p1810 := eq_true p1810
            replace q1810 := eq_true q1810
            have p1811 : 0 ≤ (x11_1 : Int) := of_decide_eq_true (by first | (with_reducible assumption) | assumption)
            have q1811 : x11_1 < (t1791.length : Int) := of_decide_eq_true (by first | (with_reducible assumption) | assumption)
            obtain ⟨ad1811, e1811, hx1811_0, hx1811_1, hx1811_2, hx1811_3⟩ := at_T26 (Kd.R_reads' HO_9.out).2.2 x11_1 p1811 q1811
            obtain rfl : ad1795 = ad1811 := (by injection e1811)
            replace p1811 := eq_true p1811
            replace q1811 := eq_true q1811
            refine start_ (n := 12) (S := fun w' => w'.cell? (ad1795.add ((x11_1).toNat * 4)) = some (.int .i64 ((rd_T26 t1791 x11_1).f0)) ∧ w'.cell? ⟨(ad1795.add ((x11_1).toNat * 4)).block, (ad1795.add ((x11_1).toNat * 4)).off + 1, none⟩ = some (.int .i64 ((rd_T26 t1791 x11_1).f1)) ∧ w'.cell? ⟨(ad1795.add ((x11_1).toNat * 4)).block, (ad1795.add ((x11_1).toNat * 4)).off + 2, none⟩ = some (.int .i64 ((rd_T26 t1791 x11_1).f2)) ∧ w'.cell? ⟨(ad1795.add ((x11_1).toNat * 4)).block, (ad1795.add ((x11_1).toNat * 4)).off + 3, none⟩ = some (.int .i64 ((rd_T26 t1791 x11_1).f3)) ∧ w'.cell? (ad1795.add ((x11_1).toNat * 4)) = some (.int .i64 ((rd_T26 t1791 x11_1).f0)) ∧ w'.cell? ⟨(ad1795.add ((x11_1).toNat * 4)).block, (ad1795.add ((x11_1).toNat * 4)).off + 1, none⟩ = some (.int .i64 ((rd_T26 t1791 x11_1).f1)) ∧ w'.cell? ⟨(ad1795.add ((x11_1).toNat * 4)).block, (ad1795.add ((x11_1).toNat * 4)).off + 2, none⟩ = some (.int .i64 ((rd_T26 t1791 x11_1).f2)) ∧ w'.cell? ⟨(ad1795.add ((x11_1).toNat * 4)).block, (ad1795.add ((x11_1).toNat * 4)).off + 3, none⟩ = some (.int .i64 ((rd_T26 t1791 x11_1).f3))) (ds := []) #[false, false, false, false, false, false, false, false, false, false, false, false] (by kernel_rfl) rfl rfl ⟨hx1810_0, hx1810_1, hx1810_2, hx1810_3, hx1811_0, hx1811_1, hx1811_2, hx1811_3⟩ (fun hHeld => ?_); refine with_tabW spec_PartFrom.tab12 spec_PartFrom.bits12 (fun HT_ HW_ => ?_)
            generalize w27.drew = w28 at HO_9 HO1809 HB hx1810_0 hx1810_1 hx1810_2 hx1810_3 hx1811_0 hx1811_1 hx1811_2 hx1811_3 hHeld ⊢
            refine pure_ (i := 0) (N := some 72) (v := ?_) (a' := ?_) #[true, false, false, false, false, false, false, false, false, false, false, false] rfl rfl (any_of HT_.out (by kernel_rfl)) (fun _ _ _ h => h) (Or.inl ⟨by rfl, ?_⟩) ?_ ?_
            rotate_left
            ·
             intro w'
             go_simp
             with_reducible rfl
            rotate_left
            ·
             simp only [Act.put, List.setIfInBounds_toArray, List.set_cons_zero, List.set_cons_succ, i64_w, i32_w]
             rfl
            refine pure_ (i := 1) (N := some 73) (v := ?_) (a' := ?_) #[true, true, false, false, false, false, false, false, false, false, false, false] rfl rfl (any_of HT_.out (by kernel_rfl)) (fun _ _ _ h => h) (Or.inl ⟨by rfl, ?_⟩) ?_ ?_
            rotate_left
            ·
             intro w'
             go_simp
             with_reducible rfl
            rotate_left
            ·
             simp only [Act.put, List.setIfInBounds_toArray, List.set_cons_zero, List.set_cons_succ, i64_w, i32_w]
             rfl
            refine pure_ (i := 2) (N := some 74) (v := ?_) (a' := ?_) #[true, true, true, false, false, false, false, false, false, false, false, false] rfl rfl (any_of HT_.out (by kernel_rfl)) (fun _ _ _ h => h) (Or.inl ⟨by rfl, ?_⟩) ?_ ?_
            rotate_left
            ·
             intro w'
             go_simp
             with_reducible rfl
            rotate_left
            ·
             simp only [Act.put, List.setIfInBounds_toArray, List.set_cons_zero, List.set_cons_succ, i64_w, i32_w]
             rfl
            refine pure_ (i := 3) (N := some 75) (v := ?_) (a' := ?_) #[true, true, true, true, false, false, false, false, false, false, false, false] rfl rfl (any_of HT_.out (by kernel_rfl)) (fun _ _ _ h => h) (Or.inl ⟨by rfl, ?_⟩) ?_ ?_
            rotate_left
            ·
             intro w'
             go_simp
             with_reducible rfl
            rotate_left
            ·
             simp only [Act.put, List.setIfInBounds_toArray, List.set_cons_zero, List.set_cons_succ, i64_w, i32_w]
             rfl
            refine pure_ (i := 5) (N := some 77) (v := ?_) (a' := ?_) #[true, true, true, true, false, true, false, false, false, false, false, false] rfl rfl (any_of HT_.out (by kernel_rfl)) (fun _ _ _ h => h) (Or.inl ⟨by rfl, ?_⟩) ?_ ?_
            rotate_left
            ·
             intro w'
             go_simp
             with_reducible rfl
            rotate_left
            ·
             simp only [Act.put, List.setIfInBounds_toArray, List.set_cons_zero, List.set_cons_succ, i64_w, i32_w]
             rfl
            refine pure_ (i := 6) (N := some 78) (v := ?_) (a' := ?_) #[true, true, true, true, false, true, true, false, false, false, false, false] rfl rfl (any_of HT_.out (by kernel_rfl)) (fun _ _ _ h => h) (Or.inl ⟨by rfl, ?_⟩) ?_ ?_
            rotate_left
            ·
             intro w'
             go_simp
             with_reducible rfl
            rotate_left
            ·
             simp only [Act.put, List.setIfInBounds_toArray, List.set_cons_zero, List.set_cons_succ, i64_w, i32_w]
             rfl
            refine pure_ (i := 7) (N := some 79) (v := ?_) (a' := ?_) #[true, true, true, true, false, true, true, true, false, false, false, false] rfl rfl (any_of HT_.out (by kernel_rfl)) (fun _ _ _ h => h) (Or.inl ⟨by rfl, ?_⟩) ?_ ?_
            rotate_left
            ·
             intro w'
             go_simp
             with_reducible rfl
            rotate_left
            ·
             simp only [Act.put, List.setIfInBounds_toArray, List.set_cons_zero, List.set_cons_succ, i64_w, i32_w]
             rfl
            refine pure_ (i := 8) (N := some 80) (v := ?_) (a' := ?_) #[true, true, true, true, false, true, true, true, true, false, false, false] rfl rfl (any_of HT_.out (by kernel_rfl)) (fun _ _ _ h => h) (Or.inl ⟨by rfl, ?_⟩) ?_ ?_
            rotate_left
            ·
             intro w'
             go_simp
             with_reducible rfl
            rotate_left
            ·
             simp only [Act.put, List.setIfInBounds_toArray, List.set_cons_zero, List.set_cons_succ, i64_w, i32_w]
             rfl
            refine take_ (i := 4) (N := some 76) (v := ?_) (a' := ?_) #[true, true, true, true, true, true, true, true, true, false, false, false] rfl rfl (take_ofW HT_.out HW_.out (by kernel_rfl)) (fun _ _ _ h => h) (Or.inl ⟨by rfl, ?_⟩) hHeld ?_ ?_
            rotate_left
            ·
             rintro w' ⟨s0, s1, s2, s3, s4, s5, s6, s7⟩
             go_simp
             with_reducible rfl
            rotate_left
            ·
             simp only [Act.put, List.setIfInBounds_toArray, List.set_cons_zero, List.set_cons_succ, i64_w, i32_w]
             rfl
            refine take_ (i := 9) (N := some 81) (v := ?_) (a' := ?_) #[true, true, true, true, true, true, true, true, true, true, false, false] rfl rfl (take_ofW HT_.out HW_.out (by kernel_rfl)) (fun _ _ _ h => h) (Or.inl ⟨by rfl, ?_⟩) hHeld ?_ ?_
            rotate_left
            ·
             rintro w' ⟨s0, s1, s2, s3, s4, s5, s6, s7⟩
             go_simp
             with_reducible rfl
            rotate_left
            ·
             simp only [Act.put, List.setIfInBounds_toArray, List.set_cons_zero, List.set_cons_succ, i64_w, i32_w]
             rfl
            refine pure_ (i := 10) (N := some 82) (v := ?_) (a' := ?_) #[true, true, true, true, true, true, true, true, true, true, true, false] rfl rfl (any_of HT_.out (by kernel_rfl)) (fun _ _ _ h => h) (Or.inl ⟨by rfl, ?_⟩) ?_ ?_
            rotate_left
            ·
             intro w'
             go_simp
             with_reducible rfl
            rotate_left
            ·
             simp only [Act.put, List.setIfInBounds_toArray, List.set_cons_zero, List.set_cons_succ, i64_w, i32_w]
             rfl
            refine pure_ (i := 11) (N := some 10) (v := ?_) (a' := ?_) #[true, true, true, true, true, true, true, true, true, true, true, true] rfl rfl (any_of HT_.out (by kernel_rfl)) (fun _ _ _ h => h) (Or.inl ⟨by rfl, ?_⟩) ?_ ?_
            rotate_left
            ·
             intro w'
             go_simp
             with_reducible rfl
            rotate_left
            ·
             simp only [Act.put, List.setIfInBounds_toArray, List.set_cons_zero, List.set_cons_succ, i64_w, i32_w]
             rfl
            refine done_ (done_of HT_.out (by kernel_rfl)) ?_
            try go_wp2
            go_roundg kj7
            case measure => have := HK1.out; have := HJ7.out; omega
            case rel => exact ⟨(y1807), (wrap64 (((rd_T26 t1791 x11_1).f0) + ((rd_T26 t1791 x11_1).f1))), (wrap64 (x11_1 + 1)), (by first | rfl | (simp; done) | (simp [*]; done)), (by first | rfl | (simp; done) | (simp [*]; done)), H', ⟨by have := HK1.out; have := HJ7.out; omega⟩, ⟨by (with_reducible repeat (first | apply Kd.R_alloc | apply Kd.R_drewN | apply Kd.R_drew)); exact HO1809.out⟩, ⟨by (with_reducible repeat (first | apply Kd.R_alloc | apply Kd.R_drewN | apply Kd.R_drew)); exact HO_9.out⟩, ⟨by repeat (first | (with_reducible first | exact HB.out | apply below_alloc | apply pw_below_drewN | apply below_drew1) | exact HB.out)⟩⟩
           ·
            rw [if_neg c23] at H
            exact absurd H (by simp)
          ·
           rw [if_neg c22] at H
           exact absurd H (by simp)
         ·
          rw [if_neg c21] at H
          have c21b0 : decide (x10_1 < ((rd_T26 t1791 x11_1).f0)) = false := decide_eq_false c21
          clear c21
          by_cases c29 : x8_1.length < 5864062014805
          ·
           rw [if_pos c29] at H
           have LMc29 := Aside0.mk c29
           clear c29
           obtain ⟨y1815, hy1815⟩ : ∃ y_ : List (S111), y_ = (x8_1 ++ [(⟨(rd_T26 t1791 x11_1).f0, (rd_T26 t1791 x11_1).f1, (rd_T26 t1791 x11_1).f2⟩ : S111)]) := ⟨_, rfl⟩
           replace H : (spec_PartFrom.l0 kj7 l0 a2 y1815 t1791 (wrap64 (((rd_T26 t1791 x11_1).f0) + ((rd_T26 t1791 x11_1).f1))) (wrap64 (x11_1 + 1))) = some (r1, r2) := by first | (rw [hy1815]; with_reducible exact H) | (have H2_ := (Option.bind_some _ _).symm.trans H; rw [hy1815]; with_reducible exact H2_) | (have H2_ := (Option.bind_some _ _).symm.trans H; with_reducible exact H2_) | with_reducible exact H | (rw [hy1815]; exact H) | exact H
           have Ny1815 := Aside0.mk hy1815
           clear hy1815
           have H' := Aside0.mk H
           clear H
           obtain ⟨Ao30, co30, eo30⟩ := Kd.R_slice HO_9.out
           subst eo30
           have p1795 : 0 ≤ (x11_1 : Int) := of_decide_eq_true (by first | (with_reducible assumption) | assumption)
           have q1795 : x11_1 < (t1791.length : Int) := of_decide_eq_true (by first | (with_reducible assumption) | assumption)
           obtain ⟨ad1795, e1795, hx1795_0, hx1795_1, hx1795_2, hx1795_3⟩ := at_T26 (Kd.R_reads' HO_9.out).2.2 x11_1 p1795 q1795
           cases e1795
           replace p1795 := eq_true p1795
           replace q1795 := eq_true q1795
           have p1799 : 0 ≤ (x11_1 : Int) := of_decide_eq_true (by first | (with_reducible assumption) | assumption)
           have q1799 : x11_1 < (t1791.length : Int) := of_decide_eq_true (by first | (with_reducible assumption) | assumption)
           obtain ⟨ad1799, e1799, hx1799_0, hx1799_1, hx1799_2, hx1799_3⟩ := at_T26 (Kd.R_reads' HO_9.out).2.2 x11_1 p1799 q1799
           obtain rfl : ad1795 = ad1799 := (by injection e1799)
           replace p1799 := eq_true p1799
           replace q1799 := eq_true q1799
           try go_wp2
           have n0_ := Aside0.mk (Kd.R_drew HO_8.out)
           have n1_ := Aside0.mk (Kd.R_drew HO_9.out)
           have n2_ := Aside0.mk (below_drew1 HB.out)
           clear HO_8
           clear HO_9
           clear HB
           have HO_8 := n0_
           have HO_9 := n1_
           have HB := n2_
           clear n0_ n1_ n2_
           have p1812 : 0 ≤ (x11_1 : Int) := of_decide_eq_true (by first | (with_reducible assumption) | assumption)
           have q1812 : x11_1 < (t1791.length : Int) := of_decide_eq_true (by first | (with_reducible assumption) | assumption)
           obtain ⟨ad1812, e1812, hx1812_0, hx1812_1, hx1812_2, hx1812_3⟩ := at_T26 (Kd.R_reads' HO_9.out).2.2 x11_1 p1812 q1812
           obtain rfl : ad1795 = ad1812 := (by injection e1812)
           replace p1812 := eq_true p1812
           replace q1812 := eq_true q1812
           have p1813 : 0 ≤ (x11_1 : Int) := of_decide_eq_true (by first | (with_reducible assumption) | assumption)
           have q1813 : x11_1 < (t1791.length : Int) := of_decide_eq_true (by first | (with_reducible assumption) | assumption)
           obtain ⟨ad1813, e1813, hx1813_0, hx1813_1, hx1813_2, hx1813_3⟩ := at_T26 (Kd.R_reads' HO_9.out).2.2 x11_1 p1813 q1813
           obtain rfl : ad1795 = ad1813 := (by injection e1813)
           replace p1813 := eq_true p1813
           replace q1813 := eq_true q1813
           have p1814 : 0 ≤ (x11_1 : Int) := of_decide_eq_true (by first | (with_reducible assumption) | assumption)
           have q1814 : x11_1 < (t1791.length : Int) := of_decide_eq_true (by first | (with_reducible assumption) | assumption)
           obtain ⟨ad1814, e1814, hx1814_0, hx1814_1, hx1814_2, hx1814_3⟩ := at_T26 (Kd.R_reads' HO_9.out).2.2 x11_1 p1814 q1814
           obtain rfl : ad1795 = ad1814 := (by injection e1814)
           replace p1814 := eq_true p1814
           replace q1814 := eq_true q1814
           refine start_ (n := 20) (S := fun w' => w'.cell? (ad1795.add ((x11_1).toNat * 4)) = some (.int .i64 ((rd_T26 t1791 x11_1).f0)) ∧ w'.cell? ⟨(ad1795.add ((x11_1).toNat * 4)).block, (ad1795.add ((x11_1).toNat * 4)).off + 1, none⟩ = some (.int .i64 ((rd_T26 t1791 x11_1).f1)) ∧ w'.cell? ⟨(ad1795.add ((x11_1).toNat * 4)).block, (ad1795.add ((x11_1).toNat * 4)).off + 2, none⟩ = some (.int .i64 ((rd_T26 t1791 x11_1).f2)) ∧ w'.cell? ⟨(ad1795.add ((x11_1).toNat * 4)).block, (ad1795.add ((x11_1).toNat * 4)).off + 3, none⟩ = some (.int .i64 ((rd_T26 t1791 x11_1).f3)) ∧ w'.cell? (ad1795.add ((x11_1).toNat * 4)) = some (.int .i64 ((rd_T26 t1791 x11_1).f0)) ∧ w'.cell? ⟨(ad1795.add ((x11_1).toNat * 4)).block, (ad1795.add ((x11_1).toNat * 4)).off + 1, none⟩ = some (.int .i64 ((rd_T26 t1791 x11_1).f1)) ∧ w'.cell? ⟨(ad1795.add ((x11_1).toNat * 4)).block, (ad1795.add ((x11_1).toNat * 4)).off + 2, none⟩ = some (.int .i64 ((rd_T26 t1791 x11_1).f2)) ∧ w'.cell? ⟨(ad1795.add ((x11_1).toNat * 4)).block, (ad1795.add ((x11_1).toNat * 4)).off + 3, none⟩ = some (.int .i64 ((rd_T26 t1791 x11_1).f3)) ∧ w'.cell? (ad1795.add ((x11_1).toNat * 4)) = some (.int .i64 ((rd_T26 t1791 x11_1).f0)) ∧ w'.cell? ⟨(ad1795.add ((x11_1).toNat * 4)).block, (ad1795.add ((x11_1).toNat * 4)).off + 1, none⟩ = some (.int .i64 ((rd_T26 t1791 x11_1).f1)) ∧ w'.cell? ⟨(ad1795.add ((x11_1).toNat * 4)).block, (ad1795.add ((x11_1).toNat * 4)).off + 2, none⟩ = some (.int .i64 ((rd_T26 t1791 x11_1).f2)) ∧ w'.cell? ⟨(ad1795.add ((x11_1).toNat * 4)).block, (ad1795.add ((x11_1).toNat * 4)).off + 3, none⟩ = some (.int .i64 ((rd_T26 t1791 x11_1).f3))) (ds := [17, 18]) #[false, false, false, false, false, false, false, false, false, false, false, false, false, false, false, false, false, false, false, false] (by kernel_rfl) rfl rfl ⟨hx1812_0, hx1812_1, hx1812_2, hx1812_3, hx1813_0, hx1813_1, hx1813_2, hx1813_3, hx1814_0, hx1814_1, hx1814_2, hx1814_3⟩ (fun hHeld => ?_); refine with_tabW spec_PartFrom.tab11 spec_PartFrom.bits11 (fun HT_ HW_ => ?_)
           generalize wc.drew = w31 at HO_8 HO_9 HB hx1812_0 hx1812_1 hx1812_2 hx1812_3 hx1813_0 hx1813_1 hx1813_2 hx1813_3 hx1814_0 hx1814_1 hx1814_2 hx1814_3 hHeld ⊢
           refine pure_ (i := 0) (N := some 53) (v := ?_) (a' := ?_) #[true, false, false, false, false, false, false, false, false, false, false, false, false, false, false, false, false, false, false, false] rfl rfl (any_of HT_.out (by kernel_rfl)) (fun _ _ _ h => h) (Or.inl ⟨by rfl, ?_⟩) ?_ ?_
           rotate_left
           ·
            intro w'
            go_simp
            with_reducible rfl
           rotate_left
           ·
            simp only [Act.put, List.setIfInBounds_toArray, List.set_cons_zero, List.set_cons_succ, i64_w, i32_w]
            rfl
           refine pure_ (i := 1) (N := some 54) (v := ?_) (a' := ?_) #[true, true, false, false, false, false, false, false, false, false, false, false, false, false, false, false, false, false, false, false] rfl rfl (any_of HT_.out (by kernel_rfl)) (fun _ _ _ h => h) (Or.inl ⟨by rfl, ?_⟩) ?_ ?_
           rotate_left
           ·
            intro w'
            go_simp
            with_reducible rfl
           rotate_left
           ·
            simp only [Act.put, List.setIfInBounds_toArray, List.set_cons_zero, List.set_cons_succ, i64_w, i32_w]
            rfl
           refine pure_ (i := 2) (N := some 55) (v := ?_) (a' := ?_) #[true, true, true, false, false, false, false, false, false, false, false, false, false, false, false, false, false, false, false, false] rfl rfl (any_of HT_.out (by kernel_rfl)) (fun _ _ _ h => h) (Or.inl ⟨by rfl, ?_⟩) ?_ ?_
           rotate_left
           ·
            intro w'
            go_simp
            with_reducible rfl
           rotate_left
           ·
            simp only [Act.put, List.setIfInBounds_toArray, List.set_cons_zero, List.set_cons_succ, i64_w, i32_w]
            rfl
           refine pure_ (i := 3) (N := some 56) (v := ?_) (a' := ?_) #[true, true, true, true, false, false, false, false, false, false, false, false, false, false, false, false, false, false, false, false] rfl rfl (any_of HT_.out (by kernel_rfl)) (fun _ _ _ h => h) (Or.inl ⟨by rfl, ?_⟩) ?_ ?_
           rotate_left
           ·
            intro w'
            go_simp
            with_reducible rfl
           rotate_left
           ·
            simp only [Act.put, List.setIfInBounds_toArray, List.set_cons_zero, List.set_cons_succ, i64_w, i32_w]
            rfl
           refine pure_ (i := 4) (N := some 57) (v := ?_) (a' := ?_) #[true, true, true, true, true, false, false, false, false, false, false, false, false, false, false, false, false, false, false, false] rfl rfl (any_of HT_.out (by kernel_rfl)) (fun _ _ _ h => h) (Or.inl ⟨by rfl, ?_⟩) ?_ ?_
           rotate_left
           ·
            intro w'
            go_simp
            with_reducible rfl
           rotate_left
           ·
            simp only [Act.put, List.setIfInBounds_toArray, List.set_cons_zero, List.set_cons_succ, i64_w, i32_w]
            rfl
           refine pure_ (i := 6) (N := some 59) (v := ?_) (a' := ?_) #[true, true, true, true, true, false, true, false, false, false, false, false, false, false, false, false, false, false, false, false] rfl rfl (any_of HT_.out (by kernel_rfl)) (fun _ _ _ h => h) (Or.inl ⟨by rfl, ?_⟩) ?_ ?_
           rotate_left
           ·
            intro w'
            go_simp
            with_reducible rfl
           rotate_left
           ·
            simp only [Act.put, List.setIfInBounds_toArray, List.set_cons_zero, List.set_cons_succ, i64_w, i32_w]
            rfl
           refine pure_ (i := 7) (N := some 60) (v := ?_) (a' := ?_) #[true, true, true, true, true, false, true, true, false, false, false, false, false, false, false, false, false, false, false, false] rfl rfl (any_of HT_.out (by kernel_rfl)) (fun _ _ _ h => h) (Or.inl ⟨by rfl, ?_⟩) ?_ ?_
           rotate_left
           ·
            intro w'
            go_simp
            with_reducible rfl
           rotate_left
           ·
            simp only [Act.put, List.setIfInBounds_toArray, List.set_cons_zero, List.set_cons_succ, i64_w, i32_w]
            rfl
           refine pure_ (i := 8) (N := some 61) (v := ?_) (a' := ?_) #[true, true, true, true, true, false, true, true, true, false, false, false, false, false, false, false, false, false, false, false] rfl rfl (any_of HT_.out (by kernel_rfl)) (fun _ _ _ h => h) (Or.inl ⟨by rfl, ?_⟩) ?_ ?_
           rotate_left
           ·
            intro w'
            go_simp
            with_reducible rfl
           rotate_left
           ·
            simp only [Act.put, List.setIfInBounds_toArray, List.set_cons_zero, List.set_cons_succ, i64_w, i32_w]
            rfl
           refine pure_ (i := 9) (N := some 62) (v := ?_) (a' := ?_) #[true, true, true, true, true, false, true, true, true, true, false, false, false, false, false, false, false, false, false, false] rfl rfl (any_of HT_.out (by kernel_rfl)) (fun _ _ _ h => h) (Or.inl ⟨by rfl, ?_⟩) ?_ ?_
           rotate_left
           ·
            intro w'
            go_simp
            with_reducible rfl
           rotate_left
           ·
            simp only [Act.put, List.setIfInBounds_toArray, List.set_cons_zero, List.set_cons_succ, i64_w, i32_w]
            rfl
           refine pure_ (i := 11) (N := some 64) (v := ?_) (a' := ?_) #[true, true, true, true, true, false, true, true, true, true, false, true, false, false, false, false, false, false, false, false] rfl rfl (any_of HT_.out (by kernel_rfl)) (fun _ _ _ h => h) (Or.inl ⟨by rfl, ?_⟩) ?_ ?_
           rotate_left
           ·
            intro w'
            go_simp
            with_reducible rfl
           rotate_left
           ·
            simp only [Act.put, List.setIfInBounds_toArray, List.set_cons_zero, List.set_cons_succ, i64_w, i32_w]
            rfl
           refine pure_ (i := 12) (N := some 65) (v := ?_) (a' := ?_) #[true, true, true, true, true, false, true, true, true, true, false, true, true, false, false, false, false, false, false, false] rfl rfl (any_of HT_.out (by kernel_rfl)) (fun _ _ _ h => h) (Or.inl ⟨by rfl, ?_⟩) ?_ ?_
           rotate_left
           ·
            intro w'
            go_simp
            with_reducible rfl
           rotate_left
           ·
            simp only [Act.put, List.setIfInBounds_toArray, List.set_cons_zero, List.set_cons_succ, i64_w, i32_w]
            rfl
           refine pure_ (i := 13) (N := some 66) (v := ?_) (a' := ?_) #[true, true, true, true, true, false, true, true, true, true, false, true, true, true, false, false, false, false, false, false] rfl rfl (any_of HT_.out (by kernel_rfl)) (fun _ _ _ h => h) (Or.inl ⟨by rfl, ?_⟩) ?_ ?_
           rotate_left
           ·
            intro w'
            go_simp
            with_reducible rfl
           rotate_left
           ·
            simp only [Act.put, List.setIfInBounds_toArray, List.set_cons_zero, List.set_cons_succ, i64_w, i32_w]
            rfl
           refine pure_ (i := 14) (N := some 67) (v := ?_) (a' := ?_) #[true, true, true, true, true, false, true, true, true, true, false, true, true, true, true, false, false, false, false, false] rfl rfl (any_of HT_.out (by kernel_rfl)) (fun _ _ _ h => h) (Or.inl ⟨by rfl, ?_⟩) ?_ ?_
           rotate_left
           ·
            intro w'
            go_simp
            with_reducible rfl
           rotate_left
           ·
            simp only [Act.put, List.setIfInBounds_toArray, List.set_cons_zero, List.set_cons_succ, i64_w, i32_w]
            rfl
           refine take_ (i := 5) (N := some 58) (v := ?_) (a' := ?_) #[true, true, true, true, true, true, true, true, true, true, false, true, true, true, true, false, false, false, false, false] rfl rfl (take_ofW HT_.out HW_.out (by kernel_rfl)) (fun _ _ _ h => h) (Or.inl ⟨by rfl, ?_⟩) hHeld ?_ ?_
           rotate_left
           ·
            rintro w' ⟨s0, s1, s2, s3, s4, s5, s6, s7, s8, s9, s10, s11⟩
            go_simp
            with_reducible rfl
           rotate_left
           ·
            simp only [Act.put, List.setIfInBounds_toArray, List.set_cons_zero, List.set_cons_succ, i64_w, i32_w]
            rfl
           refine take_ (i := 10) (N := some 63) (v := ?_) (a' := ?_) #[true, true, true, true, true, true, true, true, true, true, true, true, true, true, true, false, false, false, false, false] rfl rfl (take_ofW HT_.out HW_.out (by kernel_rfl)) (fun _ _ _ h => h) (Or.inl ⟨by rfl, ?_⟩) hHeld ?_ ?_
           rotate_left
           ·
            rintro w' ⟨s0, s1, s2, s3, s4, s5, s6, s7, s8, s9, s10, s11⟩
            go_simp
            with_reducible rfl
           rotate_left
           ·
            simp only [Act.put, List.setIfInBounds_toArray, List.set_cons_zero, List.set_cons_succ, i64_w, i32_w]
            rfl
           refine take_ (i := 15) (N := some 68) (v := ?_) (a' := ?_) #[true, true, true, true, true, true, true, true, true, true, true, true, true, true, true, true, false, false, false, false] rfl rfl (take_ofW HT_.out HW_.out (by kernel_rfl)) (fun _ _ _ h => h) (Or.inl ⟨by rfl, ?_⟩) hHeld ?_ ?_
           rotate_left
           ·
            rintro w' ⟨s0, s1, s2, s3, s4, s5, s6, s7, s8, s9, s10, s11⟩
            go_simp
            with_reducible rfl
           rotate_left
           ·
            simp only [Act.put, List.setIfInBounds_toArray, List.set_cons_zero, List.set_cons_succ, i64_w, i32_w]
            rfl
           refine pure_ (i := 16) (N := some 69) (v := ?_) (a' := ?_) #[true, true, true, true, true, true, true, true, true, true, true, true, true, true, true, true, true, false, false, false] rfl rfl (any_of HT_.out (by kernel_rfl)) (fun _ _ _ h => h) (Or.inl ⟨by rfl, ?_⟩) ?_ ?_
           rotate_left
           ·
            intro w'
            go_simp
            with_reducible rfl
           rotate_left
           ·
            simp only [Act.put, List.setIfInBounds_toArray, List.set_cons_zero, List.set_cons_succ, i64_w, i32_w]
            rfl
           refine last_ (i := 17) (N := some 70) #[true, true, true, true, true, true, true, true, true, true, true, true, true, true, true, true, true, true, false, false] rfl rfl (one_of HT_.out (by kernel_rfl)) (by decide) (fun K hK => ?_)
           refine value_ (w1 := ?_) (v := ?_) (by rfl) rfl ?_ ?_
           rotate_left 2
           ·
            go_simp
            constructor
            ·
             rfl
            ·
             rfl
           refine hK.out _ _ ?_
           clear hK K
           refine norm_ (a' := ?_) ?_ ?_
           rotate_left
           ·
            show Act.put _ (some 70) _ = _
            simp only [Act.put, List.setIfInBounds_toArray, List.set_cons_zero, List.set_cons_succ, i64_w, i32_w]
            rfl
           refine last_ (i := 18) (N := some 71) #[true, true, true, true, true, true, true, true, true, true, true, true, true, true, true, true, true, true, true, false] rfl rfl (one_of HT_.out (by kernel_rfl)) (by decide) (fun K hK => ?_)
           refine Kd.R_append_step k111 (w0 := w) w.heap.size (by rfl) (.tmp 53) (.tmp 70) 107 111 (.agg #[(.int .i64 0), (.int .i64 0), (.int .i64 0)]) 24 rfl Try.underlying107 info111 rfl (by decide) (by omega) u8 x8_1 (⟨(rd_T26 t1791 x11_1).f0, (rd_T26 t1791 x11_1).f1, (rd_T26 t1791 x11_1).f2⟩ : S111) [.int .i64 ((rd_T26 t1791 x11_1).f0), .int .i64 ((rd_T26 t1791 x11_1).f1), .int .i64 ((rd_T26 t1791 x11_1).f2)] (fun _ => True) (fun _ => False) rfl rfl ?aP (fun _ hk => hk.elim) ?aF ?aO ?aB ?aS ?aL ?_
           (case aP => exact k111_mkM _ _ _ (⟨(rd_T26 t1791 x11_1).f0, (rd_T26 t1791 x11_1).f1, (rd_T26 t1791 x11_1).f2⟩ : S111))
           (case aB => exact (by repeat (first | (with_reducible first | exact HB.out | apply below_alloc | apply pw_below_drewN | apply below_drew1) | exact HB.out)))
           (case aF => exact (fun _ _ => trivial))
           (case aO => exact (by (with_reducible repeat (first | apply Kd.R_alloc | apply Kd.R_drewN | apply Kd.R_drew)); exact HO_8.out))
           (case aS => exact (below_size (by repeat (first | (with_reducible first | exact HB.out | apply below_alloc | apply pw_below_drewN | apply below_drew1) | exact HB.out))))
           (case aL => have := LMc29.out; omega)
           intro v1816 w32 ho hb hg hat
           rw [← Ny1815.out] at ho
           have n0_ := Aside0.mk (Kd.R_over' (by (with_reducible repeat (first | apply Kd.R_alloc | apply Kd.R_drewN | apply Kd.R_drew)); exact HO_9.out) (Kd.R_typed (by (with_reducible repeat (first | apply Kd.R_alloc | apply Kd.R_drewN | apply Kd.R_drew)); exact HO_8.out)) (by decide) hg)
           have n1_ := Aside0.mk (hb)
           have n2_ := Aside0.mk (ho)
           clear HO_9
           clear HB
           clear HO_8
           have HO_9 := n0_
           have HB := n1_
           have HO1817 := n2_
           clear n0_ n1_ n2_
           clear ho hb hg hat
           refine hK.out _ _ ?_
           clear hK K
           refine norm_ (a' := ?_) ?_ ?_
           rotate_left
           ·
            show Act.put _ (some 71) _ = _
            simp only [Act.put, List.setIfInBounds_toArray, List.set_cons_zero, List.set_cons_succ, i64_w, i32_w]
            rfl
           refine pure_ (i := 19) (N := some 8) (v := ?_) (a' := ?_) #[true, true, true, true, true, true, true, true, true, true, true, true, true, true, true, true, true, true, true, true] rfl rfl (any_of HT_.out (by kernel_rfl)) (fun _ _ _ h => h) (Or.inl ⟨by rfl, ?_⟩) ?_ ?_
           rotate_left
           ·
            intro w'
            go_simp
            with_reducible rfl
           rotate_left
           ·
            simp only [Act.put, List.setIfInBounds_toArray, List.set_cons_zero, List.set_cons_succ, i64_w, i32_w]
            rfl
           refine done_ (done_of HT_.out (by kernel_rfl)) ?_
           try go_wp2
           have n0_ := Aside0.mk (Kd.R_drew HO_9.out)
           have n1_ := Aside0.mk (Kd.R_drew HO1817.out)
           have n2_ := Aside0.mk (below_drew1 HB.out)
           clear HO_9
           clear HO1817
           clear HB
           have HO_9 := n0_
           have HO1817 := n1_
           have HB := n2_
           clear n0_ n1_ n2_
           have p1818 : 0 ≤ (x11_1 : Int) := of_decide_eq_true (by first | (with_reducible assumption) | assumption)
           have q1818 : x11_1 < (t1791.length : Int) := of_decide_eq_true (by first | (with_reducible assumption) | assumption)
           obtain ⟨ad1818, e1818, hx1818_0, hx1818_1, hx1818_2, hx1818_3⟩ := at_T26 (Kd.R_reads' HO_9.out).2.2 x11_1 p1818 q1818
           obtain rfl : ad1795 = ad1818 := (by injection e1818)
           replace p1818 := eq_true p1818
           replace q1818 := eq_true q1818
           have p1819 : 0 ≤ (x11_1 : Int) := of_decide_eq_true (by first | (with_reducible assumption) | assumption)
           have q1819 : x11_1 < (t1791.length : Int) := of_decide_eq_true (by first | (with_reducible assumption) | assumption)
           obtain ⟨ad1819, e1819, hx1819_0, hx1819_1, hx1819_2, hx1819_3⟩ := at_T26 (Kd.R_reads' HO_9.out).2.2 x11_1 p1819 q1819
           obtain rfl : ad1795 = ad1819 := (by injection e1819)
           replace p1819 := eq_true p1819
           replace q1819 := eq_true q1819
           refine start_ (n := 12) (S := fun w' => w'.cell? (ad1795.add ((x11_1).toNat * 4)) = some (.int .i64 ((rd_T26 t1791 x11_1).f0)) ∧ w'.cell? ⟨(ad1795.add ((x11_1).toNat * 4)).block, (ad1795.add ((x11_1).toNat * 4)).off + 1, none⟩ = some (.int .i64 ((rd_T26 t1791 x11_1).f1)) ∧ w'.cell? ⟨(ad1795.add ((x11_1).toNat * 4)).block, (ad1795.add ((x11_1).toNat * 4)).off + 2, none⟩ = some (.int .i64 ((rd_T26 t1791 x11_1).f2)) ∧ w'.cell? ⟨(ad1795.add ((x11_1).toNat * 4)).block, (ad1795.add ((x11_1).toNat * 4)).off + 3, none⟩ = some (.int .i64 ((rd_T26 t1791 x11_1).f3)) ∧ w'.cell? (ad1795.add ((x11_1).toNat * 4)) = some (.int .i64 ((rd_T26 t1791 x11_1).f0)) ∧ w'.cell? ⟨(ad1795.add ((x11_1).toNat * 4)).block, (ad1795.add ((x11_1).toNat * 4)).off + 1, none⟩ = some (.int .i64 ((rd_T26 t1791 x11_1).f1)) ∧ w'.cell? ⟨(ad1795.add ((x11_1).toNat * 4)).block, (ad1795.add ((x11_1).toNat * 4)).off + 2, none⟩ = some (.int .i64 ((rd_T26 t1791 x11_1).f2)) ∧ w'.cell? ⟨(ad1795.add ((x11_1).toNat * 4)).block, (ad1795.add ((x11_1).toNat * 4)).off + 3, none⟩ = some (.int .i64 ((rd_T26 t1791 x11_1).f3))) (ds := []) #[false, false, false, false, false, false, false, false, false, false, false, false] (by kernel_rfl) rfl rfl ⟨hx1818_0, hx1818_1, hx1818_2, hx1818_3, hx1819_0, hx1819_1, hx1819_2, hx1819_3⟩ (fun hHeld => ?_); refine with_tabW spec_PartFrom.tab12 spec_PartFrom.bits12 (fun HT_ HW_ => ?_)
           generalize w32.drew = w33 at HO_9 HO1817 HB hx1818_0 hx1818_1 hx1818_2 hx1818_3 hx1819_0 hx1819_1 hx1819_2 hx1819_3 hHeld ⊢
           refine pure_ (i := 0) (N := some 72) (v := ?_) (a' := ?_) #[true, false, false, false, false, false, false, false, false, false, false, false] rfl rfl (any_of HT_.out (by kernel_rfl)) (fun _ _ _ h => h) (Or.inl ⟨by rfl, ?_⟩) ?_ ?_
           rotate_left
           ·
            intro w'
            go_simp
            with_reducible rfl
           rotate_left
           ·
            simp only [Act.put, List.setIfInBounds_toArray, List.set_cons_zero, List.set_cons_succ, i64_w, i32_w]
            rfl
           refine pure_ (i := 1) (N := some 73) (v := ?_) (a' := ?_) #[true, true, false, false, false, false, false, false, false, false, false, false] rfl rfl (any_of HT_.out (by kernel_rfl)) (fun _ _ _ h => h) (Or.inl ⟨by rfl, ?_⟩) ?_ ?_
           rotate_left
           ·
            intro w'
            go_simp
            with_reducible rfl
           rotate_left
           ·
            simp only [Act.put, List.setIfInBounds_toArray, List.set_cons_zero, List.set_cons_succ, i64_w, i32_w]
            rfl
           refine pure_ (i := 2) (N := some 74) (v := ?_) (a' := ?_) #[true, true, true, false, false, false, false, false, false, false, false, false] rfl rfl (any_of HT_.out (by kernel_rfl)) (fun _ _ _ h => h) (Or.inl ⟨by rfl, ?_⟩) ?_ ?_
           rotate_left
           ·
            intro w'
            go_simp
            with_reducible rfl
           rotate_left
           ·
            simp only [Act.put, List.setIfInBounds_toArray, List.set_cons_zero, List.set_cons_succ, i64_w, i32_w]
            rfl
           refine pure_ (i := 3) (N := some 75) (v := ?_) (a' := ?_) #[true, true, true, true, false, false, false, false, false, false, false, false] rfl rfl (any_of HT_.out (by kernel_rfl)) (fun _ _ _ h => h) (Or.inl ⟨by rfl, ?_⟩) ?_ ?_
           rotate_left
           ·
            intro w'
            go_simp
            with_reducible rfl
           rotate_left
           ·
            simp only [Act.put, List.setIfInBounds_toArray, List.set_cons_zero, List.set_cons_succ, i64_w, i32_w]
            rfl
           refine pure_ (i := 5) (N := some 77) (v := ?_) (a' := ?_) #[true, true, true, true, false, true, false, false, false, false, false, false] rfl rfl (any_of HT_.out (by kernel_rfl)) (fun _ _ _ h => h) (Or.inl ⟨by rfl, ?_⟩) ?_ ?_
           rotate_left
           ·
            intro w'
            go_simp
            with_reducible rfl
           rotate_left
           ·
            simp only [Act.put, List.setIfInBounds_toArray, List.set_cons_zero, List.set_cons_succ, i64_w, i32_w]
            rfl
           refine pure_ (i := 6) (N := some 78) (v := ?_) (a' := ?_) #[true, true, true, true, false, true, true, false, false, false, false, false] rfl rfl (any_of HT_.out (by kernel_rfl)) (fun _ _ _ h => h) (Or.inl ⟨by rfl, ?_⟩) ?_ ?_
           rotate_left
           ·
            intro w'
            go_simp
            with_reducible rfl
           rotate_left
           ·
            simp only [Act.put, List.setIfInBounds_toArray, List.set_cons_zero, List.set_cons_succ, i64_w, i32_w]
            rfl
           refine pure_ (i := 7) (N := some 79) (v := ?_) (a' := ?_) #[true, true, true, true, false, true, true, true, false, false, false, false] rfl rfl (any_of HT_.out (by kernel_rfl)) (fun _ _ _ h => h) (Or.inl ⟨by rfl, ?_⟩) ?_ ?_
           rotate_left
           ·
            intro w'
            go_simp
            with_reducible rfl
           rotate_left
           ·
            simp only [Act.put, List.setIfInBounds_toArray, List.set_cons_zero, List.set_cons_succ, i64_w, i32_w]
            rfl
           refine pure_ (i := 8) (N := some 80) (v := ?_) (a' := ?_) #[true, true, true, true, false, true, true, true, true, false, false, false] rfl rfl (any_of HT_.out (by kernel_rfl)) (fun _ _ _ h => h) (Or.inl ⟨by rfl, ?_⟩) ?_ ?_
           rotate_left
           ·
            intro w'
            go_simp
            with_reducible rfl
           rotate_left
           ·
            simp only [Act.put, List.setIfInBounds_toArray, List.set_cons_zero, List.set_cons_succ, i64_w, i32_w]
            rfl
           refine take_ (i := 4) (N := some 76) (v := ?_) (a' := ?_) #[true, true, true, true, true, true, true, true, true, false, false, false] rfl rfl (take_ofW HT_.out HW_.out (by kernel_rfl)) (fun _ _ _ h => h) (Or.inl ⟨by rfl, ?_⟩) hHeld ?_ ?_
           rotate_left
           ·
            rintro w' ⟨s0, s1, s2, s3, s4, s5, s6, s7⟩
            go_simp
            with_reducible rfl
           rotate_left
           ·
            simp only [Act.put, List.setIfInBounds_toArray, List.set_cons_zero, List.set_cons_succ, i64_w, i32_w]
            rfl
           refine take_ (i := 9) (N := some 81) (v := ?_) (a' := ?_) #[true, true, true, true, true, true, true, true, true, true, false, false] rfl rfl (take_ofW HT_.out HW_.out (by kernel_rfl)) (fun _ _ _ h => h) (Or.inl ⟨by rfl, ?_⟩) hHeld ?_ ?_
           rotate_left
           ·
            rintro w' ⟨s0, s1, s2, s3, s4, s5, s6, s7⟩
            go_simp
            with_reducible rfl
           rotate_left
           ·
            simp only [Act.put, List.setIfInBounds_toArray, List.set_cons_zero, List.set_cons_succ, i64_w, i32_w]
            rfl
           refine pure_ (i := 10) (N := some 82) (v := ?_) (a' := ?_) #[true, true, true, true, true, true, true, true, true, true, true, false] rfl rfl (any_of HT_.out (by kernel_rfl)) (fun _ _ _ h => h) (Or.inl ⟨by rfl, ?_⟩) ?_ ?_
           rotate_left
           ·
            intro w'
            go_simp
            with_reducible rfl
           rotate_left
           ·
            simp only [Act.put, List.setIfInBounds_toArray, List.set_cons_zero, List.set_cons_succ, i64_w, i32_w]
            rfl
           refine pure_ (i := 11) (N := some 10) (v := ?_) (a' := ?_) #[true, true, true, true, true, true, true, true, true, true, true, true] rfl rfl (any_of HT_.out (by kernel_rfl)) (fun _ _ _ h => h) (Or.inl ⟨by rfl, ?_⟩) ?_ ?_
           rotate_left
           ·
            intro w'
            go_simp
            with_reducible rfl
           rotate_left
           ·
            simp only [Act.put, List.setIfInBounds_toArray, List.set_cons_zero, List.set_cons_succ, i64_w, i32_w]
            rfl
           refine done_ (done_of HT_.out (by kernel_rfl)) ?_
           try go_wp2
           go_roundg kj7
           case measure => have := HK1.out; have := HJ7.out; omega
           case rel => exact ⟨(y1815), (wrap64 (((rd_T26 t1791 x11_1).f0) + ((rd_T26 t1791 x11_1).f1))), (wrap64 (x11_1 + 1)), (by first | rfl | (simp; done) | (simp [*]; done)), (by first | rfl | (simp; done) | (simp [*]; done)), H', ⟨by have := HK1.out; have := HJ7.out; omega⟩, ⟨by (with_reducible repeat (first | apply Kd.R_alloc | apply Kd.R_drewN | apply Kd.R_drew)); exact HO1817.out⟩, ⟨by (with_reducible repeat (first | apply Kd.R_alloc | apply Kd.R_drewN | apply Kd.R_drew)); exact HO_9.out⟩, ⟨by repeat (first | (with_reducible first | exact HB.out | apply below_alloc | apply pw_below_drewN | apply below_drew1) | exact HB.out)⟩⟩
          ·
           rw [if_neg c29] at H
           exact absurd H (by simp)
       ·
        rw [if_neg c16] at H
        exact absurd H (by simp)
      ·
       rw [if_neg c15] at H
       exact absurd H (by simp)
     ·
      replace c14 := Bool.eq_false_iff.mpr c14
      subst c14
      rw [if_neg (show ¬ (false = true) by decide)] at H
      have HC34 := Aside0.mk H
      clear H
      go_upto_region 13 with (fail)
      go_cut [94] (fun v94 wc => ∃ (kq : Nat) (x94_33 : Bool), v94 = .bool x94_33 ∧ Aside0 (spec_PartFrom.j2 kq a2 x8_1 x10_1 x94_33 = some (r1, r2)) ∧ Aside0 (kq ≤ kj7) ∧ Aside0 (Kd.R k111 111 wc w.heap.size (fun _ => True) u8 x8_1) ∧ Aside0 (Below w.heap.size w wc))
      case first =>
       have H := HC34.out
       clear HC34
       replace H := Option.bind_eq_some_iff.mp H
       obtain ⟨t1820, A350, H⟩ := H
       try dsimp only at H
       have A35 := Aside0.mk A350
       clear A350
       by_cases c36 : t1820 = true
       ·
        subst c36
        rw [if_pos rfl] at H
        by_cases c37 : a2 < x10_1
        ·
         rw [if_pos c37] at H
         have c37b0 : decide (a2 < x10_1) = true := decide_eq_true c37
         clear c37
         (first | rw [c37b0] | (simp only [i64_w, i32_w]; rw [c37b0]) | skip)
         have H' := Aside0.mk H
         clear H
         go_wp2_with (first | ((with_reducible refine gate_callee (f := 97) rfl ?_); refine goesL_ (some 84) rfl rfl Try.func97 (by kernel_rfl) rfl #[.slice A0 l0.length c0] rfl (by (try simp only [List.map_toArray, List.map_cons, List.map_nil]); first | done | rfl | (simp only [List.length_drop, List.length_take]; rfl)) ?_; (with_reducible refine (spec_IsScore.calls kj7 _ _ l0 true _ ?side1 ?side2 A35.out).mono ?_); (case side1 => repeat (first | exact (Kd.C_below HR0.out HB.out) | (with_reducible refine Kd.C_alloc ?_ _) | (with_reducible refine Kd.C_drewN ?_ _) | (with_reducible refine Kd.C_drew ?_))); (case side2 => exact HC0.out); rintro e w38 ⟨rfl, hb⟩; refine ⟨_, rfl, ?_⟩; have n0_ := Aside0.mk (Kd.R_below (by (with_reducible repeat (first | apply Kd.R_alloc | apply Kd.R_drewN | apply Kd.R_drew)); exact HO_8.out) hb); have n1_ := Aside0.mk (Kd.R_below (by (with_reducible repeat (first | apply Kd.R_alloc | apply Kd.R_drewN | apply Kd.R_drew)); exact HO_9.out) hb); have n2_ := Aside0.mk (below_step (by repeat (first | (with_reducible first | exact HB.out | apply below_alloc | apply pw_below_drewN | apply below_drew1) | exact HB.out)) hb); clear HO_8; clear HO_9; clear HB; have HO_8 := n0_; have HO_9 := n1_; have HB := n2_; clear n0_ n1_ n2_; (try clear hb); (try clear hb2); (try clear hk); (try clear hi)))
         go_meet
         case rel => exact ⟨_, (true), (by first | rfl | (simp; done) | (simp [*]; done)), H', ⟨by have := HK1.out; have := HJ7.out; first | omega | exact Nat.le_refl _⟩, ⟨by (with_reducible repeat (first | apply Kd.R_alloc | apply Kd.R_drewN | apply Kd.R_drew)); exact HO_8.out⟩, ⟨by repeat (first | (with_reducible first | exact HB.out | apply below_alloc | apply pw_below_drewN | apply below_drew1) | exact HB.out)⟩⟩
        ·
         rw [if_neg c37] at H
         have c37b0 : decide (a2 < x10_1) = false := decide_eq_false c37
         clear c37
         (first | rw [c37b0] | (simp only [i64_w, i32_w]; rw [c37b0]) | skip)
         have H' := Aside0.mk H
         clear H
         go_wp2_with (first | ((with_reducible refine gate_callee (f := 97) rfl ?_); refine goesL_ (some 84) rfl rfl Try.func97 (by kernel_rfl) rfl #[.slice A0 l0.length c0] rfl (by (try simp only [List.map_toArray, List.map_cons, List.map_nil]); first | done | rfl | (simp only [List.length_drop, List.length_take]; rfl)) ?_; (with_reducible refine (spec_IsScore.calls kj7 _ _ l0 true _ ?side1 ?side2 A35.out).mono ?_); (case side1 => repeat (first | exact (Kd.C_below HR0.out HB.out) | (with_reducible refine Kd.C_alloc ?_ _) | (with_reducible refine Kd.C_drewN ?_ _) | (with_reducible refine Kd.C_drew ?_))); (case side2 => exact HC0.out); rintro e w39 ⟨rfl, hb⟩; refine ⟨_, rfl, ?_⟩; have n0_ := Aside0.mk (Kd.R_below (by (with_reducible repeat (first | apply Kd.R_alloc | apply Kd.R_drewN | apply Kd.R_drew)); exact HO_8.out) hb); have n1_ := Aside0.mk (Kd.R_below (by (with_reducible repeat (first | apply Kd.R_alloc | apply Kd.R_drewN | apply Kd.R_drew)); exact HO_9.out) hb); have n2_ := Aside0.mk (below_step (by repeat (first | (with_reducible first | exact HB.out | apply below_alloc | apply pw_below_drewN | apply below_drew1) | exact HB.out)) hb); clear HO_8; clear HO_9; clear HB; have HO_8 := n0_; have HO_9 := n1_; have HB := n2_; clear n0_ n1_ n2_; (try clear hb); (try clear hb2); (try clear hk); (try clear hi)))
         go_meet
         case rel => exact ⟨_, (decide (a2 > 2096)), (by first | rfl | (simp; done) | (simp [*]; done)), H', ⟨by have := HK1.out; have := HJ7.out; first | omega | exact Nat.le_refl _⟩, ⟨by (with_reducible repeat (first | apply Kd.R_alloc | apply Kd.R_drewN | apply Kd.R_drew)); exact HO_8.out⟩, ⟨by repeat (first | (with_reducible first | exact HB.out | apply below_alloc | apply pw_below_drewN | apply below_drew1) | exact HB.out)⟩⟩
       ·
        replace c36 := Bool.eq_false_iff.mpr c36
        subst c36
        rw [if_neg (show ¬ (false = true) by decide)] at H
        have H' := Aside0.mk H
        clear H
        go_wp2_with (first | ((with_reducible refine gate_callee (f := 97) rfl ?_); refine goesL_ (some 84) rfl rfl Try.func97 (by kernel_rfl) rfl #[.slice A0 l0.length c0] rfl (by (try simp only [List.map_toArray, List.map_cons, List.map_nil]); first | done | rfl | (simp only [List.length_drop, List.length_take]; rfl)) ?_; (with_reducible refine (spec_IsScore.calls kj7 _ _ l0 false _ ?side1 ?side2 A35.out).mono ?_); (case side1 => repeat (first | exact (Kd.C_below HR0.out HB.out) | (with_reducible refine Kd.C_alloc ?_ _) | (with_reducible refine Kd.C_drewN ?_ _) | (with_reducible refine Kd.C_drew ?_))); (case side2 => exact HC0.out); rintro e w40 ⟨rfl, hb⟩; refine ⟨_, rfl, ?_⟩; have n0_ := Aside0.mk (Kd.R_below (by (with_reducible repeat (first | apply Kd.R_alloc | apply Kd.R_drewN | apply Kd.R_drew)); exact HO_8.out) hb); have n1_ := Aside0.mk (Kd.R_below (by (with_reducible repeat (first | apply Kd.R_alloc | apply Kd.R_drewN | apply Kd.R_drew)); exact HO_9.out) hb); have n2_ := Aside0.mk (below_step (by repeat (first | (with_reducible first | exact HB.out | apply below_alloc | apply pw_below_drewN | apply below_drew1) | exact HB.out)) hb); clear HO_8; clear HO_9; clear HB; have HO_8 := n0_; have HO_9 := n1_; have HB := n2_; clear n0_ n1_ n2_; (try clear hb); (try clear hb2); (try clear hk); (try clear hi)))
        go_meet
        case rel => exact ⟨_, (true), (by first | rfl | (simp; done) | (simp [*]; done)), H', ⟨by have := HK1.out; have := HJ7.out; first | omega | exact Nat.le_refl _⟩, ⟨by (with_reducible repeat (first | apply Kd.R_alloc | apply Kd.R_drewN | apply Kd.R_drew)); exact HO_8.out⟩, ⟨by repeat (first | (with_reducible first | exact HB.out | apply below_alloc | apply pw_below_drewN | apply below_drew1) | exact HB.out)⟩⟩
      case rest =>
       clear HC34
       try clear c1
       try clear p1
       try clear q1
       try clear hx1
       try clear c2
       try clear p2
       try clear c3
       try clear p6
       try clear c9
       try clear c14
       try clear c15
       try clear c16
       try clear p17
       try clear q17
       try clear hx17
       try clear p18
       try clear q18
       try clear hx18
       try clear c21
       try clear c21b0
       try clear c22
       try clear c23
       try clear c29
       try clear c36
       try clear c37
       try clear c37b0
       try clear hx1795_0
       try clear hx1795_1
       try clear hx1795_2
       try clear hx1795_3
       try clear hx1799_0
       try clear hx1799_1
       try clear hx1799_2
       try clear hx1799_3
       try clear hx1810_0
       try clear hx1810_1
       try clear hx1810_2
       try clear hx1810_3
       try clear hx1811_0
       try clear hx1811_1
       try clear hx1811_2
       try clear hx1811_3
       try clear hx1812_0
       try clear hx1812_1
       try clear hx1812_2
       try clear hx1812_3
       try clear hx1813_0
       try clear hx1813_1
       try clear hx1813_2
       try clear hx1813_3
       try clear hx1814_0
       try clear hx1814_1
       try clear hx1814_2
       try clear hx1814_3
       try clear hx1818_0
       try clear hx1818_1
       try clear hx1818_2
       try clear hx1818_3
       try clear hx1819_0
       try clear hx1819_1
       try clear hx1819_2
       try clear hx1819_3
       try clear p1795
       try clear p1799
       try clear p1810
       try clear p1811
       try clear p1812
       try clear p1813
       try clear p1814
       try clear p1818
       try clear p1819
       try clear q1795
       try clear q1799
       try clear q1810
       try clear q1811
       try clear q1812
       try clear q1813
       try clear q1814
       try clear q1818
       try clear q1819
       obtain ⟨kq, x94_33, rfl, HA, HJ33, HO_8, HB⟩ := hcut
       cases kq with
       | zero => exact absurd HA.out (by simp [spec_PartFrom.j2])
       | succ kj33 =>
        have H := HA.out
        clear HA
        simp only [spec_PartFrom.j2] at H
        by_cases c41 : x94_33 = true
        ·
         subst c41
         rw [if_pos rfl] at H
         obtain ⟨y1821, hy1821⟩ : ∃ y_ : List (S111), y_ = (([] : List (S111))) := ⟨_, rfl⟩
         replace H : (some (y1821, false)) = some (r1, r2) := by first | (rw [hy1821]; with_reducible exact H) | (have H2_ := (Option.bind_some _ _).symm.trans H; rw [hy1821]; with_reducible exact H2_) | (have H2_ := (Option.bind_some _ _).symm.trans H; with_reducible exact H2_) | with_reducible exact H | (rw [hy1821]; exact H) | exact H
         have Ny1821 := Aside0.mk hy1821
         clear hy1821
         simp only [Option.some.injEq, Prod.mk.injEq] at H
         obtain ⟨rfl, rfl⟩ := H
         go_wp2_with (first | ((with_reducible refine gate_dst (N := 95) rfl ?_); refine Kd.R_lit k111 _ 111 ?hg (N := 95) ?hd (xs := ([] : List (S111))) (inner := []) (ok := fun _ => True) (okp := fun _ => True) ?hr ?hp (fun _ hk => hk) trivial (Below.refl _ _) (Nat.le_refl _) (by simp) ?_; (case hd => rfl); (case hg => rfl); (case hr => first | (go_simp; done) | (go_simp; rfl)); (case hp => exact (Reps.none _ _)); intro v1822 w42 ho43 hb hg_ hnew_; clear hg_ hnew_; (first | rw [← Ny1821.out] at ho43 | (simp only [Int.reduceToNat] at ho43; rw [← Ny1821.out] at ho43)); have n0_ := Aside0.mk (Kd.R_elder' (by (with_reducible repeat (first | apply Kd.R_alloc | apply Kd.R_drewN | apply Kd.R_drew)); exact HO_8.out) (Kd.R_base ho43) hb); have n1_ := Aside0.mk (Kd.R_lower (Kd.R_new' ho43 (Kd.R_lt (by (with_reducible repeat (first | apply Kd.R_alloc | apply Kd.R_drewN | apply Kd.R_drew)); exact HO_8.out))) (below_size (by repeat (first | (with_reducible first | exact HB.out | apply below_alloc | apply pw_below_drewN | apply below_drew1) | exact HB.out)))); have n2_ := Aside0.mk (below_step (by repeat (first | (with_reducible first | exact HB.out | apply below_alloc | apply pw_below_drewN | apply below_drew1) | exact HB.out)) hb); clear HO_8; clear HB; have HO_8 := n0_; have HO1823 := n1_; have HB := n2_; clear n0_ n1_ n2_; clear hb ho43))
         go_ret2
         exact ⟨_, by first | rfl | (simp [errW_none, errW_some] <;> rfl) | (simp [*, errW_none, errW_some] <;> rfl), by (with_reducible repeat (first | apply Kd.R_alloc | apply Kd.R_drewN | apply Kd.R_drew)); exact Kd.R_mono HO1823.out (fun _ hk => trivial), by repeat (first | (with_reducible first | exact HB.out | apply below_alloc | apply pw_below_drewN | apply below_drew1) | exact HB.out)⟩
        ·
         replace c41 := Bool.eq_false_iff.mpr c41
         subst c41
         rw [if_neg (show ¬ (false = true) by decide)] at H
         by_cases c44 : a2 > x10_1
         ·
          rw [if_pos c44] at H
          have c44b0 : decide (x10_1 < a2) = true := decide_eq_true c44
          clear c44
          by_cases c45 : x8_1.length < 5864062014805
          ·
           rw [if_pos c45] at H
           have LMc45 := Aside0.mk c45
           clear c45
           obtain ⟨y1824, hy1824⟩ : ∃ y_ : List (S111), y_ = (x8_1 ++ [(⟨x10_1, wrap64 (a2 - x10_1), 0⟩ : S111)]) := ⟨_, rfl⟩
           replace H : (some (y1824, true)) = some (r1, r2) := by first | (rw [hy1824]; with_reducible exact H) | (have H2_ := (Option.bind_some _ _).symm.trans H; rw [hy1824]; with_reducible exact H2_) | (have H2_ := (Option.bind_some _ _).symm.trans H; with_reducible exact H2_) | with_reducible exact H | (rw [hy1824]; exact H) | exact H
           have Ny1824 := Aside0.mk hy1824
           clear hy1824
           simp only [Option.some.injEq, Prod.mk.injEq] at H
           obtain ⟨rfl, rfl⟩ := H
           go_wp2_with (first | ((with_reducible refine gate_builtin (b := .append) (xs := #[.tmp 99, .tmp 105]) rfl ?_); at_builtin; refine Kd.R_append k111 (w0 := w) w.heap.size rfl (.tmp 99) (.tmp 105) 107 111 (.agg #[(.int .i64 0), (.int .i64 0), (.int .i64 0)]) 24 rfl Try.underlying107 info111 rfl (by decide) (by omega) u8 x8_1 (⟨x10_1, wrap64 (a2 - x10_1), 0⟩ : S111) [.int .i64 x10_1, .int .i64 (wrap64 (a2 - x10_1)), .int .i64 0] (fun _ => True) (fun _ => False) rfl rfl ?aP (fun _ hk => hk.elim) ?aF ?aO ?aB ?aS ?aL ?_; (case aP => exact k111_mkM _ _ _ (⟨x10_1, wrap64 (a2 - x10_1), 0⟩ : S111)); (case aB => exact (by repeat (first | (with_reducible first | exact HB.out | apply below_alloc | apply pw_below_drewN | apply below_drew1) | exact HB.out))); (case aF => exact (fun _ _ => trivial)); (case aO => exact (by (with_reducible repeat (first | apply Kd.R_alloc | apply Kd.R_drewN | apply Kd.R_drew)); exact HO_8.out)); (case aS => exact (below_size (by repeat (first | (with_reducible first | exact HB.out | apply below_alloc | apply pw_below_drewN | apply below_drew1) | exact HB.out)))); (case aL => have := LMc45.out; omega); intro v1825 w46 ho hb hg hat; rw [← Ny1824.out] at ho; have n0_ := Aside0.mk (hb); have n1_ := Aside0.mk (ho); clear HB; clear HO_8; have HB := n0_; have HO1826 := n1_; clear n0_ n1_; clear ho hb hg hat))
           go_ret2
           exact ⟨_, by first | rfl | (simp [errW_none, errW_some] <;> rfl) | (simp [*, errW_none, errW_some] <;> rfl), by (with_reducible repeat (first | apply Kd.R_alloc | apply Kd.R_drewN | apply Kd.R_drew)); exact HO1826.out, by repeat (first | (with_reducible first | exact HB.out | apply below_alloc | apply pw_below_drewN | apply below_drew1) | exact HB.out)⟩
          ·
           rw [if_neg c45] at H
           exact absurd H (by simp)
         ·
          rw [if_neg c44] at H
          have c44b0 : decide (x10_1 < a2) = false := decide_eq_false c44
          clear c44
          simp only [Option.some.injEq, Prod.mk.injEq] at H
          obtain ⟨rfl, rfl⟩ := H
          go_wp2
          go_ret2
          exact ⟨_, by first | rfl | (simp [errW_none, errW_some] <;> rfl) | (simp [*, errW_none, errW_some] <;> rfl), by (with_reducible repeat (first | apply Kd.R_alloc | apply Kd.R_drewN | apply Kd.R_drew)); exact HO_8.out, by repeat (first | (with_reducible first | exact HB.out | apply below_alloc | apply pw_below_drewN | apply below_drew1) | exact HB.out)⟩
end Go.Proofs.Ytbhlmeghbfmgiaa.F

namespace Go.Proofs.Ytbhlmeghbfmgiaa.F
open Go.RowKit Go.Proofs.YtbhlmeghbfmgiaaW.PrintWords Go.Proofs.YtbhlmeghbfmgiaaW.PrintLast Go.Proofs.YtbhlmeghbfmgiaaW.PrintMore
attribute [local go_sem] max2_int min2_int max_two min_two max_three min_three max_four min_four
set_option linter.unusedVariables false
set_option linter.unusedSimpArgs false
def impl_IsPart.l0 : Nat → List (S111) → Int → List (S111) → Int → Int → Option (Bool)
 | 0, _, _, _, _, _ => none
 | k + 1, x0, x3, x7, x8, x9 => if x9 < x8 then (if 0 ≤ x9 then (if x9 < (x7.length : Int) then (if ((rd_T111 x7 x9).f0) = x3 then ((impl_InRange.f ((rd_T111 x7 x9).f1) 1 3000).bind fun t1829 => (if t1829 = true then (if (((rd_T111 x7 x9).f2) = 0) then (if ((rd_T111 x7 x9).f2) = 0 then (if x9 > 0 then (if 0 ≤ (wrap64 (x9 - 1)) then (if (wrap64 (x9 - 1)) < (x0.length : Int) then (if ((rd_T111 x0 (wrap64 (x9 - 1))).f2) = 0 then (some false) else (impl_IsPart.l0 k x0 (wrap64 (x3 + ((rd_T111 x7 x9).f1))) x7 x8 (wrap64 (x9 + 1)))) else (none)) else (none)) else (impl_IsPart.l0 k x0 (wrap64 (x3 + ((rd_T111 x7 x9).f1))) x7 x8 (wrap64 (x9 + 1)))) else (impl_IsPart.l0 k x0 (wrap64 (x3 + ((rd_T111 x7 x9).f1))) x7 x8 (wrap64 (x9 + 1)))) else ((impl_InRange.f ((rd_T111 x7 x9).f2) 21 108).bind fun t1831 => (if t1831 = true then (if ((rd_T111 x7 x9).f1) > 96 then (some false) else (if ((rd_T111 x7 x9).f2) = 0 then (if x9 > 0 then (if 0 ≤ (wrap64 (x9 - 1)) then (if (wrap64 (x9 - 1)) < (x0.length : Int) then (if ((rd_T111 x0 (wrap64 (x9 - 1))).f2) = 0 then (some false) else (impl_IsPart.l0 k x0 (wrap64 (x3 + ((rd_T111 x7 x9).f1))) x7 x8 (wrap64 (x9 + 1)))) else (none)) else (none)) else (impl_IsPart.l0 k x0 (wrap64 (x3 + ((rd_T111 x7 x9).f1))) x7 x8 (wrap64 (x9 + 1)))) else (impl_IsPart.l0 k x0 (wrap64 (x3 + ((rd_T111 x7 x9).f1))) x7 x8 (wrap64 (x9 + 1))))) else (some false)))) else (some false))) else (some false)) else (none)) else (none)) else (some true)
def impl_IsPart.f (k : Nat) (l0 : List (S111)) : Option (Bool) := impl_IsPart.l0 k l0 0 l0 (l0.length : Int) 0
set_option maxHeartbeats 8000000 in
set_option maxRecDepth 100000 in
theorem impl_IsPart.calls (k : Nat) (A0 : Option Addr) (c0 : Nat) (l0 : List (S111)) (r : Bool) (w : World) (hr0 : Kd.C k111 w A0 l0.length l0) (hc0 : l0.length ≤ c0) (h : impl_IsPart.f k l0 = some r) :
  Calls Try.prog 69 #[.slice A0 l0.length c0] w fun e w' => e = .returned (.bool r) ∧ Below w.heap.size w w' := by
 have hu111 := Try.underlying111
 have HR0 := Aside0.mk hr0
 have HC0 := Aside0.mk hc0
 clear hr0 hc0
 have HB := Aside0.mk (Below.refl w.heap.size w)
 have H : (impl_IsPart.l0 k l0 0 l0 (l0.length : Int) 0) = some r := h
 clear h
 have H' := Aside0.mk H
 clear H
 go_enter Try.func69, Try.ntmps69
 go_wp2
 go_loopg [3, 9] k (fun kq v3 v9 w' => ∃ (x3_1 : Int) (x9_1 : Int), v3 = .int .i64 x3_1 ∧ v9 = .int .i64 x9_1 ∧ Aside0 (impl_IsPart.l0 kq l0 x3_1 l0 (l0.length : Int) x9_1 = some r) ∧ Aside0 (kq ≤ k) ∧ Aside0 (Below w.heap.size w w'))
 case atStart => exact ⟨(0), (0), (by first | rfl | (simp; done) | (simp [*]; done)), (by first | rfl | (simp; done) | (simp [*]; done)), H', ⟨Nat.le_refl _⟩, ⟨by repeat (first | (with_reducible first | exact HB.out | apply below_alloc | apply pw_below_drewN | apply below_drew1) | exact HB.out)⟩⟩
 case round =>
  clear H'
  obtain ⟨x3_1, x9_1, rfl, rfl, HA, HK1, HB⟩ := hrel
  cases gk with
  | zero => exact absurd HA.out (by simp [impl_IsPart.l0])
  | succ k1 =>
   have H := HA.out
   clear HA
   simp only [impl_IsPart.l0] at H
   by_cases c2 : x9_1 < (l0.length : Int)
   ·
    rw [if_pos c2] at H
    have c2b0 : decide (x9_1 < (l0.length : Int)) = true := decide_eq_true c2
    clear c2
    by_cases c3 : 0 ≤ x9_1
    ·
     rw [if_pos c3] at H
     have c3b0 : decide (0 ≤ x9_1) = true := decide_eq_true c3
     clear c3
     by_cases c4 : x9_1 < (l0.length : Int)
     ·
      rw [if_pos c4] at H
      have c4b0 : decide (x9_1 < (l0.length : Int)) = true := decide_eq_true c4
      clear c4
      by_cases c5 : ((rd_T111 l0 x9_1).f0) = x3_1
      ·
       rw [if_pos c5] at H
       have c5b0 : (((rd_T111 l0 x9_1).f0) == x3_1) = true := beq_iff_eq.mpr c5
       have c5b1 : (((rd_T111 l0 x9_1).f0) != x3_1) = false := bne_eq_false_iff_eq.mpr c5
       clear c5
       replace H := Option.bind_eq_some_iff.mp H
       obtain ⟨t1829, A60, H⟩ := H
       try dsimp only at H
       have A6 := Aside0.mk A60
       clear A60
       by_cases c7 : t1829 = true
       ·
        subst c7
        rw [if_pos rfl] at H
        by_cases c8 : (((rd_T111 l0 x9_1).f2) = 0)
        ·
         rw [if_pos c8] at H
         have c8b0 : (((rd_T111 l0 x9_1).f2) == 0) = true := beq_iff_eq.mpr c8
         have c8b1 : (((rd_T111 l0 x9_1).f2) != 0) = false := bne_eq_false_iff_eq.mpr c8
         clear c8
         by_cases c9 : ((rd_T111 l0 x9_1).f2) = 0
         ·
          rw [if_pos c9] at H
          have c9b0 : (((rd_T111 l0 x9_1).f2) == 0) = true := beq_iff_eq.mpr c9
          have c9b1 : (((rd_T111 l0 x9_1).f2) != 0) = false := bne_eq_false_iff_eq.mpr c9
          clear c9
          by_cases c10 : x9_1 > 0
          ·
           rw [if_pos c10] at H
           have c10b0 : decide (0 < x9_1) = true := decide_eq_true c10
           clear c10
           obtain ⟨ji11, hji11⟩ : ∃ j_ : Int, (wrap64 (x9_1 - 1)) = j_ := ⟨_, rfl⟩
           replace H : (if 0 ≤ (ji11) then (if (ji11) < (l0.length : Int) then (if ((rd_T111 l0 (ji11)).f2) = 0 then (some false) else (impl_IsPart.l0 k1 l0 (wrap64 (x3_1 + ((rd_T111 l0 x9_1).f1))) l0 (l0.length : Int) (wrap64 (x9_1 + 1)))) else (none)) else (none)) = some r := by first | (rw [hji11] at H; exact H) | (simp only [hji11] at H ⊢; exact H)
           (try rw [hji11] at A6)
           have hji11w : (IntKind.i64.wrap (x9_1 - 1)) = ji11 := (i64_w _).trans hji11
           by_cases c12 : 0 ≤ (ji11)
           ·
            rw [if_pos c12] at H
            have c12b0 : decide (0 ≤ (ji11)) = true := decide_eq_true c12
            clear c12
            by_cases c13 : (ji11) < (l0.length : Int)
            ·
             rw [if_pos c13] at H
             have c13b0 : decide ((ji11) < (l0.length : Int)) = true := decide_eq_true c13
             clear c13
             by_cases c14 : ((rd_T111 l0 (ji11)).f2) = 0
             ·
              rw [if_pos c14] at H
              have c14b0 : (((rd_T111 l0 (ji11)).f2) == 0) = true := beq_iff_eq.mpr c14
              have c14b1 : (((rd_T111 l0 (ji11)).f2) != 0) = false := bne_eq_false_iff_eq.mpr c14
              clear c14
              obtain rfl := Option.some.inj H
              have p1827 : 0 ≤ (x9_1 : Int) := of_decide_eq_true (by first | (with_reducible assumption) | assumption)
              have q1827 : x9_1 < (l0.length : Int) := of_decide_eq_true (by first | (with_reducible assumption) | assumption)
              obtain ⟨ad1827, e1827, hx1827_0, hx1827_1, hx1827_2⟩ := at_T111 HR0.out x9_1 p1827 q1827
              cases e1827
              replace hx1827_0 := (HB.out.cell (World.block_lt_of_cell? w _ hx1827_0)).trans hx1827_0
              replace hx1827_1 := (HB.out.cell (World.block_lt_of_cell? w _ hx1827_1)).trans hx1827_1
              replace hx1827_2 := (HB.out.cell (World.block_lt_of_cell? w _ hx1827_2)).trans hx1827_2
              replace p1827 := eq_true p1827
              replace q1827 := eq_true q1827
              go_wp2_with (first | ((with_reducible refine gate_dst (N := 5) rfl ?_); refine box_event ?hg (N := 5) ?hd (cs := #[.int .i64 0, .int .i64 0, .int .i64 0]) (t := 111) ?hr ?_; (case hd => rfl); (case hg => rfl); (case hr => first | (go_simp; done) | (go_simp; rfl)); intro gb1828 hg w15 hbox hb; have n0_ := Aside0.mk (below_step (by repeat (first | (with_reducible first | exact HB.out | apply below_alloc | apply pw_below_drewN | apply below_drew1) | exact HB.out)) hb); have n1_ := Aside0.mk (hbox); have n2_ := Aside0.mk ((by rw [hg]; exact (below_size (by repeat (first | (with_reducible first | exact HB.out | apply below_alloc | apply pw_below_drewN | apply below_drew1) | exact HB.out))) : w.heap.size ≤ gb1828)); have n3_ := Aside0.mk ((by rw [hg]; exact (below_size (by repeat (first | (with_reducible first | exact HB.out | apply below_alloc | apply pw_below_drewN | apply below_drew1) | exact HB.out))) : w.heap.size ≤ gb1828)); clear HB; have HB := n0_; have BK1828 := n1_; have GW1828 := n2_; have GE1828 := n3_; clear n0_ n1_ n2_ n3_; clear hb hbox hg; have hcz16_0 : w15.cell? ⟨gb1828, 0, none⟩ = some (.int .i64 0) := (blk_cell BK1828.out 0).trans rfl; have hcz16_1 : w15.cell? ⟨gb1828, 1, none⟩ = some (.int .i64 0) := (blk_cell BK1828.out 1).trans rfl; have hcz16_2 : w15.cell? ⟨gb1828, 2, none⟩ = some (.int .i64 0) := (blk_cell BK1828.out 2).trans rfl; have hfz16_0 := blk_frozen BK1828.out 0; have hfz16_1 := blk_frozen BK1828.out 1; have hfz16_2 := blk_frozen BK1828.out 2) | (go_at_call 86; (with_reducible refine (impl_InRange.calls ((rd_T111 l0 x9_1).f1) 1 3000 true _ A6.out).mono ?_); rintro e w' ⟨rfl, ⟨nd, rfl⟩⟩; have p1830 : 0 ≤ ((ji11) : Int) := of_decide_eq_true (by first | (with_reducible assumption) | assumption); have q1830 : (ji11) < (l0.length : Int) := of_decide_eq_true (by first | (with_reducible assumption) | assumption); obtain ⟨ad1830, e1830, hx1830_0, hx1830_1, hx1830_2⟩ := at_T111 HR0.out (ji11) p1830 q1830; obtain rfl : ad1827 = ad1830 := (by injection e1830); have hn1830_0 : ad1827.block ≠ gb1828 := Nat.ne_of_lt (Nat.lt_of_lt_of_le (by have := World.block_lt_of_cell? _ _ hx1830_0; first | rwa [add_block] at this | exact this) GW1828.out); have hn1830_1 : ad1827.block ≠ gb1828 := Nat.ne_of_lt (Nat.lt_of_lt_of_le (by have := World.block_lt_of_cell? _ _ hx1830_0; first | rwa [add_block] at this | exact this) GW1828.out); have hn1830_2 : ad1827.block ≠ gb1828 := Nat.ne_of_lt (Nat.lt_of_lt_of_le (by have := World.block_lt_of_cell? _ _ hx1830_0; first | rwa [add_block] at this | exact this) GW1828.out); replace hx1830_0 := (HB.out.cell (World.block_lt_of_cell? w _ hx1830_0)).trans hx1830_0; replace hx1830_1 := (HB.out.cell (World.block_lt_of_cell? w _ hx1830_1)).trans hx1830_1; replace hx1830_2 := (HB.out.cell (World.block_lt_of_cell? w _ hx1830_2)).trans hx1830_2; replace hx1830_0 := (cell_far (p := ⟨gb1828, 0, none⟩) (by first | (rw [add_block]; exact hn1830_0) | (show (Addr.add _ _).block ≠ _; rw [add_block]; exact hn1830_0) | exact hn1830_0) (.int .i64 ((rd_T111 l0 x9_1).f0))).trans hx1830_0; replace hx1830_1 := (cell_far (p := ⟨gb1828, 0, none⟩) (by first | (rw [add_block]; exact hn1830_0) | (show (Addr.add _ _).block ≠ _; rw [add_block]; exact hn1830_0) | exact hn1830_0) (.int .i64 ((rd_T111 l0 x9_1).f0))).trans hx1830_1; replace hx1830_2 := (cell_far (p := ⟨gb1828, 0, none⟩) (by first | (rw [add_block]; exact hn1830_0) | (show (Addr.add _ _).block ≠ _; rw [add_block]; exact hn1830_0) | exact hn1830_0) (.int .i64 ((rd_T111 l0 x9_1).f0))).trans hx1830_2; replace hx1830_0 := (cell_far (p := ⟨gb1828, 1, none⟩) (by first | (rw [add_block]; exact hn1830_1) | (show (Addr.add _ _).block ≠ _; rw [add_block]; exact hn1830_1) | exact hn1830_1) (.int .i64 ((rd_T111 l0 x9_1).f1))).trans hx1830_0; replace hx1830_1 := (cell_far (p := ⟨gb1828, 1, none⟩) (by first | (rw [add_block]; exact hn1830_1) | (show (Addr.add _ _).block ≠ _; rw [add_block]; exact hn1830_1) | exact hn1830_1) (.int .i64 ((rd_T111 l0 x9_1).f1))).trans hx1830_1; replace hx1830_2 := (cell_far (p := ⟨gb1828, 1, none⟩) (by first | (rw [add_block]; exact hn1830_1) | (show (Addr.add _ _).block ≠ _; rw [add_block]; exact hn1830_1) | exact hn1830_1) (.int .i64 ((rd_T111 l0 x9_1).f1))).trans hx1830_2; replace hx1830_0 := (cell_far (p := ⟨gb1828, 2, none⟩) (by first | (rw [add_block]; exact hn1830_2) | (show (Addr.add _ _).block ≠ _; rw [add_block]; exact hn1830_2) | exact hn1830_2) (.int .i64 ((rd_T111 l0 x9_1).f2))).trans hx1830_0; replace hx1830_1 := (cell_far (p := ⟨gb1828, 2, none⟩) (by first | (rw [add_block]; exact hn1830_2) | (show (Addr.add _ _).block ≠ _; rw [add_block]; exact hn1830_2) | exact hn1830_2) (.int .i64 ((rd_T111 l0 x9_1).f2))).trans hx1830_1; replace hx1830_2 := (cell_far (p := ⟨gb1828, 2, none⟩) (by first | (rw [add_block]; exact hn1830_2) | (show (Addr.add _ _).block ≠ _; rw [add_block]; exact hn1830_2) | exact hn1830_2) (.int .i64 ((rd_T111 l0 x9_1).f2))).trans hx1830_2; clear hn1830_0; clear hn1830_1; clear hn1830_2; replace p1830 := eq_true p1830; replace q1830 := eq_true q1830))
              go_ret
              exact ⟨by first | rfl | (simp [errW_none, errW_some] <;> rfl) | (simp only [← hji11]; first | rfl | (simp [errW_none, errW_some] <;> rfl)) | (simp [*, errW_none, errW_some] <;> rfl), by repeat (first | (with_reducible first | exact HB.out | apply below_alloc | apply pw_below_drewN | apply below_drew1 | refine below_set ?_ GE1828.out) | exact HB.out)⟩
             ·
              rw [if_neg c14] at H
              have c14b0 : (((rd_T111 l0 (ji11)).f2) == 0) = false := beq_eq_false_iff_ne.mpr c14
              have c14b1 : (((rd_T111 l0 (ji11)).f2) != 0) = true := bne_iff_ne.mpr c14
              have H' := Aside0.mk H
              clear H
              have p1827 : 0 ≤ (x9_1 : Int) := of_decide_eq_true (by first | (with_reducible assumption) | assumption)
              have q1827 : x9_1 < (l0.length : Int) := of_decide_eq_true (by first | (with_reducible assumption) | assumption)
              obtain ⟨ad1827, e1827, hx1827_0, hx1827_1, hx1827_2⟩ := at_T111 HR0.out x9_1 p1827 q1827
              cases e1827
              replace hx1827_0 := (HB.out.cell (World.block_lt_of_cell? w _ hx1827_0)).trans hx1827_0
              replace hx1827_1 := (HB.out.cell (World.block_lt_of_cell? w _ hx1827_1)).trans hx1827_1
              replace hx1827_2 := (HB.out.cell (World.block_lt_of_cell? w _ hx1827_2)).trans hx1827_2
              replace p1827 := eq_true p1827
              replace q1827 := eq_true q1827
              go_wp2_with (first | ((with_reducible refine gate_dst (N := 5) rfl ?_); refine box_event ?hg (N := 5) ?hd (cs := #[.int .i64 0, .int .i64 0, .int .i64 0]) (t := 111) ?hr ?_; (case hd => rfl); (case hg => rfl); (case hr => first | (go_simp; done) | (go_simp; rfl)); intro gb1828 hg w17 hbox hb; have n0_ := Aside0.mk (below_step (by repeat (first | (with_reducible first | exact HB.out | apply below_alloc | apply pw_below_drewN | apply below_drew1) | exact HB.out)) hb); have n1_ := Aside0.mk (hbox); have n2_ := Aside0.mk ((by rw [hg]; exact (below_size (by repeat (first | (with_reducible first | exact HB.out | apply below_alloc | apply pw_below_drewN | apply below_drew1) | exact HB.out))) : w.heap.size ≤ gb1828)); have n3_ := Aside0.mk ((by rw [hg]; exact (below_size (by repeat (first | (with_reducible first | exact HB.out | apply below_alloc | apply pw_below_drewN | apply below_drew1) | exact HB.out))) : w.heap.size ≤ gb1828)); clear HB; have HB := n0_; have BK1828 := n1_; have GW1828 := n2_; have GE1828 := n3_; clear n0_ n1_ n2_ n3_; clear hb hbox hg; have hcz18_0 : w17.cell? ⟨gb1828, 0, none⟩ = some (.int .i64 0) := (blk_cell BK1828.out 0).trans rfl; have hcz18_1 : w17.cell? ⟨gb1828, 1, none⟩ = some (.int .i64 0) := (blk_cell BK1828.out 1).trans rfl; have hcz18_2 : w17.cell? ⟨gb1828, 2, none⟩ = some (.int .i64 0) := (blk_cell BK1828.out 2).trans rfl; have hfz18_0 := blk_frozen BK1828.out 0; have hfz18_1 := blk_frozen BK1828.out 1; have hfz18_2 := blk_frozen BK1828.out 2) | (go_at_call 86; (with_reducible refine (impl_InRange.calls ((rd_T111 l0 x9_1).f1) 1 3000 true _ A6.out).mono ?_); rintro e w' ⟨rfl, ⟨nd, rfl⟩⟩; have p1830 : 0 ≤ ((ji11) : Int) := of_decide_eq_true (by first | (with_reducible assumption) | assumption); have q1830 : (ji11) < (l0.length : Int) := of_decide_eq_true (by first | (with_reducible assumption) | assumption); obtain ⟨ad1830, e1830, hx1830_0, hx1830_1, hx1830_2⟩ := at_T111 HR0.out (ji11) p1830 q1830; obtain rfl : ad1827 = ad1830 := (by injection e1830); have hn1830_0 : ad1827.block ≠ gb1828 := Nat.ne_of_lt (Nat.lt_of_lt_of_le (by have := World.block_lt_of_cell? _ _ hx1830_0; first | rwa [add_block] at this | exact this) GW1828.out); have hn1830_1 : ad1827.block ≠ gb1828 := Nat.ne_of_lt (Nat.lt_of_lt_of_le (by have := World.block_lt_of_cell? _ _ hx1830_0; first | rwa [add_block] at this | exact this) GW1828.out); have hn1830_2 : ad1827.block ≠ gb1828 := Nat.ne_of_lt (Nat.lt_of_lt_of_le (by have := World.block_lt_of_cell? _ _ hx1830_0; first | rwa [add_block] at this | exact this) GW1828.out); replace hx1830_0 := (HB.out.cell (World.block_lt_of_cell? w _ hx1830_0)).trans hx1830_0; replace hx1830_1 := (HB.out.cell (World.block_lt_of_cell? w _ hx1830_1)).trans hx1830_1; replace hx1830_2 := (HB.out.cell (World.block_lt_of_cell? w _ hx1830_2)).trans hx1830_2; replace hx1830_0 := (cell_far (p := ⟨gb1828, 0, none⟩) (by first | (rw [add_block]; exact hn1830_0) | (show (Addr.add _ _).block ≠ _; rw [add_block]; exact hn1830_0) | exact hn1830_0) (.int .i64 ((rd_T111 l0 x9_1).f0))).trans hx1830_0; replace hx1830_1 := (cell_far (p := ⟨gb1828, 0, none⟩) (by first | (rw [add_block]; exact hn1830_0) | (show (Addr.add _ _).block ≠ _; rw [add_block]; exact hn1830_0) | exact hn1830_0) (.int .i64 ((rd_T111 l0 x9_1).f0))).trans hx1830_1; replace hx1830_2 := (cell_far (p := ⟨gb1828, 0, none⟩) (by first | (rw [add_block]; exact hn1830_0) | (show (Addr.add _ _).block ≠ _; rw [add_block]; exact hn1830_0) | exact hn1830_0) (.int .i64 ((rd_T111 l0 x9_1).f0))).trans hx1830_2; replace hx1830_0 := (cell_far (p := ⟨gb1828, 1, none⟩) (by first | (rw [add_block]; exact hn1830_1) | (show (Addr.add _ _).block ≠ _; rw [add_block]; exact hn1830_1) | exact hn1830_1) (.int .i64 ((rd_T111 l0 x9_1).f1))).trans hx1830_0; replace hx1830_1 := (cell_far (p := ⟨gb1828, 1, none⟩) (by first | (rw [add_block]; exact hn1830_1) | (show (Addr.add _ _).block ≠ _; rw [add_block]; exact hn1830_1) | exact hn1830_1) (.int .i64 ((rd_T111 l0 x9_1).f1))).trans hx1830_1; replace hx1830_2 := (cell_far (p := ⟨gb1828, 1, none⟩) (by first | (rw [add_block]; exact hn1830_1) | (show (Addr.add _ _).block ≠ _; rw [add_block]; exact hn1830_1) | exact hn1830_1) (.int .i64 ((rd_T111 l0 x9_1).f1))).trans hx1830_2; replace hx1830_0 := (cell_far (p := ⟨gb1828, 2, none⟩) (by first | (rw [add_block]; exact hn1830_2) | (show (Addr.add _ _).block ≠ _; rw [add_block]; exact hn1830_2) | exact hn1830_2) (.int .i64 ((rd_T111 l0 x9_1).f2))).trans hx1830_0; replace hx1830_1 := (cell_far (p := ⟨gb1828, 2, none⟩) (by first | (rw [add_block]; exact hn1830_2) | (show (Addr.add _ _).block ≠ _; rw [add_block]; exact hn1830_2) | exact hn1830_2) (.int .i64 ((rd_T111 l0 x9_1).f2))).trans hx1830_1; replace hx1830_2 := (cell_far (p := ⟨gb1828, 2, none⟩) (by first | (rw [add_block]; exact hn1830_2) | (show (Addr.add _ _).block ≠ _; rw [add_block]; exact hn1830_2) | exact hn1830_2) (.int .i64 ((rd_T111 l0 x9_1).f2))).trans hx1830_2; clear hn1830_0; clear hn1830_1; clear hn1830_2; replace p1830 := eq_true p1830; replace q1830 := eq_true q1830))
              go_roundg k1
              case measure => have := HK1.out; omega
              case rel => exact ⟨(wrap64 (x3_1 + ((rd_T111 l0 x9_1).f1))), (wrap64 (x9_1 + 1)), (by first | rfl | (simp; done) | (simp [*]; done)), (by first | rfl | (simp; done) | (simp [*]; done)), H', ⟨by have := HK1.out; omega⟩, ⟨by repeat (first | (with_reducible first | exact HB.out | apply below_alloc | apply pw_below_drewN | apply below_drew1 | refine below_set ?_ GE1828.out) | exact HB.out)⟩⟩
            ·
             rw [if_neg c13] at H
             exact absurd H (by simp)
           ·
            rw [if_neg c12] at H
            exact absurd H (by simp)
          ·
           rw [if_neg c10] at H
           have c10b0 : decide (0 < x9_1) = false := decide_eq_false c10
           clear c10
           have H' := Aside0.mk H
           clear H
           have p1827 : 0 ≤ (x9_1 : Int) := of_decide_eq_true (by first | (with_reducible assumption) | assumption)
           have q1827 : x9_1 < (l0.length : Int) := of_decide_eq_true (by first | (with_reducible assumption) | assumption)
           obtain ⟨ad1827, e1827, hx1827_0, hx1827_1, hx1827_2⟩ := at_T111 HR0.out x9_1 p1827 q1827
           cases e1827
           replace hx1827_0 := (HB.out.cell (World.block_lt_of_cell? w _ hx1827_0)).trans hx1827_0
           replace hx1827_1 := (HB.out.cell (World.block_lt_of_cell? w _ hx1827_1)).trans hx1827_1
           replace hx1827_2 := (HB.out.cell (World.block_lt_of_cell? w _ hx1827_2)).trans hx1827_2
           replace p1827 := eq_true p1827
           replace q1827 := eq_true q1827
           go_wp2_with (first | ((with_reducible refine gate_dst (N := 5) rfl ?_); refine box_event ?hg (N := 5) ?hd (cs := #[.int .i64 0, .int .i64 0, .int .i64 0]) (t := 111) ?hr ?_; (case hd => rfl); (case hg => rfl); (case hr => first | (go_simp; done) | (go_simp; rfl)); intro gb1828 hg w19 hbox hb; have n0_ := Aside0.mk (below_step (by repeat (first | (with_reducible first | exact HB.out | apply below_alloc | apply pw_below_drewN | apply below_drew1) | exact HB.out)) hb); have n1_ := Aside0.mk (hbox); have n2_ := Aside0.mk ((by rw [hg]; exact (below_size (by repeat (first | (with_reducible first | exact HB.out | apply below_alloc | apply pw_below_drewN | apply below_drew1) | exact HB.out))) : w.heap.size ≤ gb1828)); have n3_ := Aside0.mk ((by rw [hg]; exact (below_size (by repeat (first | (with_reducible first | exact HB.out | apply below_alloc | apply pw_below_drewN | apply below_drew1) | exact HB.out))) : w.heap.size ≤ gb1828)); clear HB; have HB := n0_; have BK1828 := n1_; have GW1828 := n2_; have GE1828 := n3_; clear n0_ n1_ n2_ n3_; clear hb hbox hg; have hcz20_0 : w19.cell? ⟨gb1828, 0, none⟩ = some (.int .i64 0) := (blk_cell BK1828.out 0).trans rfl; have hcz20_1 : w19.cell? ⟨gb1828, 1, none⟩ = some (.int .i64 0) := (blk_cell BK1828.out 1).trans rfl; have hcz20_2 : w19.cell? ⟨gb1828, 2, none⟩ = some (.int .i64 0) := (blk_cell BK1828.out 2).trans rfl; have hfz20_0 := blk_frozen BK1828.out 0; have hfz20_1 := blk_frozen BK1828.out 1; have hfz20_2 := blk_frozen BK1828.out 2) | (go_at_call 86; (with_reducible refine (impl_InRange.calls ((rd_T111 l0 x9_1).f1) 1 3000 true _ A6.out).mono ?_); rintro e w' ⟨rfl, ⟨nd, rfl⟩⟩))
           go_roundg k1
           case measure => have := HK1.out; omega
           case rel => exact ⟨(wrap64 (x3_1 + ((rd_T111 l0 x9_1).f1))), (wrap64 (x9_1 + 1)), (by first | rfl | (simp; done) | (simp [*]; done)), (by first | rfl | (simp; done) | (simp [*]; done)), H', ⟨by have := HK1.out; omega⟩, ⟨by repeat (first | (with_reducible first | exact HB.out | apply below_alloc | apply pw_below_drewN | apply below_drew1 | refine below_set ?_ GE1828.out) | exact HB.out)⟩⟩
         ·
          exact absurd (beq_iff_eq.mp c8b0) c9
        ·
         rw [if_neg c8] at H
         have c8b0 : (((rd_T111 l0 x9_1).f2) == 0) = false := beq_eq_false_iff_ne.mpr c8
         have c8b1 : (((rd_T111 l0 x9_1).f2) != 0) = true := bne_iff_ne.mpr c8
         replace H := Option.bind_eq_some_iff.mp H
         obtain ⟨t1831, A230, H⟩ := H
         try dsimp only at H
         have A23 := Aside0.mk A230
         clear A230
         by_cases c24 : t1831 = true
         ·
          subst c24
          rw [if_pos rfl] at H
          by_cases c25 : ((rd_T111 l0 x9_1).f1) > 96
          ·
           rw [if_pos c25] at H
           have c25b0 : decide (96 < ((rd_T111 l0 x9_1).f1)) = true := decide_eq_true c25
           clear c25
           obtain rfl := Option.some.inj H
           have p1827 : 0 ≤ (x9_1 : Int) := of_decide_eq_true (by first | (with_reducible assumption) | assumption)
           have q1827 : x9_1 < (l0.length : Int) := of_decide_eq_true (by first | (with_reducible assumption) | assumption)
           obtain ⟨ad1827, e1827, hx1827_0, hx1827_1, hx1827_2⟩ := at_T111 HR0.out x9_1 p1827 q1827
           cases e1827
           replace hx1827_0 := (HB.out.cell (World.block_lt_of_cell? w _ hx1827_0)).trans hx1827_0
           replace hx1827_1 := (HB.out.cell (World.block_lt_of_cell? w _ hx1827_1)).trans hx1827_1
           replace hx1827_2 := (HB.out.cell (World.block_lt_of_cell? w _ hx1827_2)).trans hx1827_2
           replace p1827 := eq_true p1827
           replace q1827 := eq_true q1827
           go_wp2_with (first | ((with_reducible refine gate_dst (N := 5) rfl ?_); refine box_event ?hg (N := 5) ?hd (cs := #[.int .i64 0, .int .i64 0, .int .i64 0]) (t := 111) ?hr ?_; (case hd => rfl); (case hg => rfl); (case hr => first | (go_simp; done) | (go_simp; rfl)); intro gb1828 hg w26 hbox hb; have n0_ := Aside0.mk (below_step (by repeat (first | (with_reducible first | exact HB.out | apply below_alloc | apply pw_below_drewN | apply below_drew1) | exact HB.out)) hb); have n1_ := Aside0.mk (hbox); have n2_ := Aside0.mk ((by rw [hg]; exact (below_size (by repeat (first | (with_reducible first | exact HB.out | apply below_alloc | apply pw_below_drewN | apply below_drew1) | exact HB.out))) : w.heap.size ≤ gb1828)); have n3_ := Aside0.mk ((by rw [hg]; exact (below_size (by repeat (first | (with_reducible first | exact HB.out | apply below_alloc | apply pw_below_drewN | apply below_drew1) | exact HB.out))) : w.heap.size ≤ gb1828)); clear HB; have HB := n0_; have BK1828 := n1_; have GW1828 := n2_; have GE1828 := n3_; clear n0_ n1_ n2_ n3_; clear hb hbox hg; have hcz27_0 : w26.cell? ⟨gb1828, 0, none⟩ = some (.int .i64 0) := (blk_cell BK1828.out 0).trans rfl; have hcz27_1 : w26.cell? ⟨gb1828, 1, none⟩ = some (.int .i64 0) := (blk_cell BK1828.out 1).trans rfl; have hcz27_2 : w26.cell? ⟨gb1828, 2, none⟩ = some (.int .i64 0) := (blk_cell BK1828.out 2).trans rfl; have hfz27_0 := blk_frozen BK1828.out 0; have hfz27_1 := blk_frozen BK1828.out 1; have hfz27_2 := blk_frozen BK1828.out 2) | (go_at_call 86; (with_reducible refine (impl_InRange.calls ((rd_T111 l0 x9_1).f1) 1 3000 true _ A6.out).mono ?_); rintro e w' ⟨rfl, ⟨nd, rfl⟩⟩) | (go_at_call 86; (with_reducible refine (impl_InRange.calls ((rd_T111 l0 x9_1).f2) 21 108 true _ A23.out).mono ?_); rintro e w' ⟨rfl, ⟨nd, rfl⟩⟩))
           go_ret
           exact ⟨by first | rfl | (simp [errW_none, errW_some] <;> rfl) | (simp [*, errW_none, errW_some] <;> rfl), by repeat (first | (with_reducible first | exact HB.out | apply below_alloc | apply pw_below_drewN | apply below_drew1 | refine below_set ?_ GE1828.out) | exact HB.out)⟩
          ·
           rw [if_neg c25] at H
           have c25b0 : decide (96 < ((rd_T111 l0 x9_1).f1)) = false := decide_eq_false c25
           clear c25
           by_cases c28 : ((rd_T111 l0 x9_1).f2) = 0
           ·
            exact absurd (beq_iff_eq.mpr c28) (by rw [c8b0]; exact Bool.false_ne_true)
           ·
            rw [if_neg c28] at H
            have c28b0 : (((rd_T111 l0 x9_1).f2) == 0) = false := beq_eq_false_iff_ne.mpr c28
            have c28b1 : (((rd_T111 l0 x9_1).f2) != 0) = true := bne_iff_ne.mpr c28
            have H' := Aside0.mk H
            clear H
            have p1827 : 0 ≤ (x9_1 : Int) := of_decide_eq_true (by first | (with_reducible assumption) | assumption)
            have q1827 : x9_1 < (l0.length : Int) := of_decide_eq_true (by first | (with_reducible assumption) | assumption)
            obtain ⟨ad1827, e1827, hx1827_0, hx1827_1, hx1827_2⟩ := at_T111 HR0.out x9_1 p1827 q1827
            cases e1827
            replace hx1827_0 := (HB.out.cell (World.block_lt_of_cell? w _ hx1827_0)).trans hx1827_0
            replace hx1827_1 := (HB.out.cell (World.block_lt_of_cell? w _ hx1827_1)).trans hx1827_1
            replace hx1827_2 := (HB.out.cell (World.block_lt_of_cell? w _ hx1827_2)).trans hx1827_2
            replace p1827 := eq_true p1827
            replace q1827 := eq_true q1827
            go_wp2_with (first | ((with_reducible refine gate_dst (N := 5) rfl ?_); refine box_event ?hg (N := 5) ?hd (cs := #[.int .i64 0, .int .i64 0, .int .i64 0]) (t := 111) ?hr ?_; (case hd => rfl); (case hg => rfl); (case hr => first | (go_simp; done) | (go_simp; rfl)); intro gb1828 hg w40 hbox hb; have n0_ := Aside0.mk (below_step (by repeat (first | (with_reducible first | exact HB.out | apply below_alloc | apply pw_below_drewN | apply below_drew1) | exact HB.out)) hb); have n1_ := Aside0.mk (hbox); have n2_ := Aside0.mk ((by rw [hg]; exact (below_size (by repeat (first | (with_reducible first | exact HB.out | apply below_alloc | apply pw_below_drewN | apply below_drew1) | exact HB.out))) : w.heap.size ≤ gb1828)); have n3_ := Aside0.mk ((by rw [hg]; exact (below_size (by repeat (first | (with_reducible first | exact HB.out | apply below_alloc | apply pw_below_drewN | apply below_drew1) | exact HB.out))) : w.heap.size ≤ gb1828)); clear HB; have HB := n0_; have BK1828 := n1_; have GW1828 := n2_; have GE1828 := n3_; clear n0_ n1_ n2_ n3_; clear hb hbox hg; have hcz41_0 : w40.cell? ⟨gb1828, 0, none⟩ = some (.int .i64 0) := (blk_cell BK1828.out 0).trans rfl; have hcz41_1 : w40.cell? ⟨gb1828, 1, none⟩ = some (.int .i64 0) := (blk_cell BK1828.out 1).trans rfl; have hcz41_2 : w40.cell? ⟨gb1828, 2, none⟩ = some (.int .i64 0) := (blk_cell BK1828.out 2).trans rfl; have hfz41_0 := blk_frozen BK1828.out 0; have hfz41_1 := blk_frozen BK1828.out 1; have hfz41_2 := blk_frozen BK1828.out 2) | (go_at_call 86; (with_reducible refine (impl_InRange.calls ((rd_T111 l0 x9_1).f1) 1 3000 true _ A6.out).mono ?_); rintro e w' ⟨rfl, ⟨nd, rfl⟩⟩) | (go_at_call 86; (with_reducible refine (impl_InRange.calls ((rd_T111 l0 x9_1).f2) 21 108 true _ A23.out).mono ?_); rintro e w' ⟨rfl, ⟨nd, rfl⟩⟩))
            go_roundg k1
            case measure => have := HK1.out; omega
            case rel => exact ⟨(wrap64 (x3_1 + ((rd_T111 l0 x9_1).f1))), (wrap64 (x9_1 + 1)), (by first | rfl | (simp; done) | (simp [*]; done)), (by first | rfl | (simp; done) | (simp [*]; done)), H', ⟨by have := HK1.out; omega⟩, ⟨by repeat (first | (with_reducible first | exact HB.out | apply below_alloc | apply pw_below_drewN | apply below_drew1 | refine below_set ?_ GE1828.out) | exact HB.out)⟩⟩
         ·
          replace c24 := Bool.eq_false_iff.mpr c24
          subst c24
          rw [if_neg (show ¬ (false = true) by decide)] at H
          obtain rfl := Option.some.inj H
          have p1827 : 0 ≤ (x9_1 : Int) := of_decide_eq_true (by first | (with_reducible assumption) | assumption)
          have q1827 : x9_1 < (l0.length : Int) := of_decide_eq_true (by first | (with_reducible assumption) | assumption)
          obtain ⟨ad1827, e1827, hx1827_0, hx1827_1, hx1827_2⟩ := at_T111 HR0.out x9_1 p1827 q1827
          cases e1827
          replace hx1827_0 := (HB.out.cell (World.block_lt_of_cell? w _ hx1827_0)).trans hx1827_0
          replace hx1827_1 := (HB.out.cell (World.block_lt_of_cell? w _ hx1827_1)).trans hx1827_1
          replace hx1827_2 := (HB.out.cell (World.block_lt_of_cell? w _ hx1827_2)).trans hx1827_2
          replace p1827 := eq_true p1827
          replace q1827 := eq_true q1827
          go_wp2_with (first | ((with_reducible refine gate_dst (N := 5) rfl ?_); refine box_event ?hg (N := 5) ?hd (cs := #[.int .i64 0, .int .i64 0, .int .i64 0]) (t := 111) ?hr ?_; (case hd => rfl); (case hg => rfl); (case hr => first | (go_simp; done) | (go_simp; rfl)); intro gb1828 hg w42 hbox hb; have n0_ := Aside0.mk (below_step (by repeat (first | (with_reducible first | exact HB.out | apply below_alloc | apply pw_below_drewN | apply below_drew1) | exact HB.out)) hb); have n1_ := Aside0.mk (hbox); have n2_ := Aside0.mk ((by rw [hg]; exact (below_size (by repeat (first | (with_reducible first | exact HB.out | apply below_alloc | apply pw_below_drewN | apply below_drew1) | exact HB.out))) : w.heap.size ≤ gb1828)); have n3_ := Aside0.mk ((by rw [hg]; exact (below_size (by repeat (first | (with_reducible first | exact HB.out | apply below_alloc | apply pw_below_drewN | apply below_drew1) | exact HB.out))) : w.heap.size ≤ gb1828)); clear HB; have HB := n0_; have BK1828 := n1_; have GW1828 := n2_; have GE1828 := n3_; clear n0_ n1_ n2_ n3_; clear hb hbox hg; have hcz43_0 : w42.cell? ⟨gb1828, 0, none⟩ = some (.int .i64 0) := (blk_cell BK1828.out 0).trans rfl; have hcz43_1 : w42.cell? ⟨gb1828, 1, none⟩ = some (.int .i64 0) := (blk_cell BK1828.out 1).trans rfl; have hcz43_2 : w42.cell? ⟨gb1828, 2, none⟩ = some (.int .i64 0) := (blk_cell BK1828.out 2).trans rfl; have hfz43_0 := blk_frozen BK1828.out 0; have hfz43_1 := blk_frozen BK1828.out 1; have hfz43_2 := blk_frozen BK1828.out 2) | (go_at_call 86; (with_reducible refine (impl_InRange.calls ((rd_T111 l0 x9_1).f1) 1 3000 true _ A6.out).mono ?_); rintro e w' ⟨rfl, ⟨nd, rfl⟩⟩) | (go_at_call 86; (with_reducible refine (impl_InRange.calls ((rd_T111 l0 x9_1).f2) 21 108 false _ A23.out).mono ?_); rintro e w' ⟨rfl, ⟨nd, rfl⟩⟩))
          go_ret
          exact ⟨by first | rfl | (simp [errW_none, errW_some] <;> rfl) | (simp [*, errW_none, errW_some] <;> rfl), by repeat (first | (with_reducible first | exact HB.out | apply below_alloc | apply pw_below_drewN | apply below_drew1 | refine below_set ?_ GE1828.out) | exact HB.out)⟩
       ·
        replace c7 := Bool.eq_false_iff.mpr c7
        subst c7
        rw [if_neg (show ¬ (false = true) by decide)] at H
        obtain rfl := Option.some.inj H
        have p1827 : 0 ≤ (x9_1 : Int) := of_decide_eq_true (by first | (with_reducible assumption) | assumption)
        have q1827 : x9_1 < (l0.length : Int) := of_decide_eq_true (by first | (with_reducible assumption) | assumption)
        obtain ⟨ad1827, e1827, hx1827_0, hx1827_1, hx1827_2⟩ := at_T111 HR0.out x9_1 p1827 q1827
        cases e1827
        replace hx1827_0 := (HB.out.cell (World.block_lt_of_cell? w _ hx1827_0)).trans hx1827_0
        replace hx1827_1 := (HB.out.cell (World.block_lt_of_cell? w _ hx1827_1)).trans hx1827_1
        replace hx1827_2 := (HB.out.cell (World.block_lt_of_cell? w _ hx1827_2)).trans hx1827_2
        replace p1827 := eq_true p1827
        replace q1827 := eq_true q1827
        go_wp2_with (first | ((with_reducible refine gate_dst (N := 5) rfl ?_); refine box_event ?hg (N := 5) ?hd (cs := #[.int .i64 0, .int .i64 0, .int .i64 0]) (t := 111) ?hr ?_; (case hd => rfl); (case hg => rfl); (case hr => first | (go_simp; done) | (go_simp; rfl)); intro gb1828 hg w44 hbox hb; have n0_ := Aside0.mk (below_step (by repeat (first | (with_reducible first | exact HB.out | apply below_alloc | apply pw_below_drewN | apply below_drew1) | exact HB.out)) hb); have n1_ := Aside0.mk (hbox); have n2_ := Aside0.mk ((by rw [hg]; exact (below_size (by repeat (first | (with_reducible first | exact HB.out | apply below_alloc | apply pw_below_drewN | apply below_drew1) | exact HB.out))) : w.heap.size ≤ gb1828)); have n3_ := Aside0.mk ((by rw [hg]; exact (below_size (by repeat (first | (with_reducible first | exact HB.out | apply below_alloc | apply pw_below_drewN | apply below_drew1) | exact HB.out))) : w.heap.size ≤ gb1828)); clear HB; have HB := n0_; have BK1828 := n1_; have GW1828 := n2_; have GE1828 := n3_; clear n0_ n1_ n2_ n3_; clear hb hbox hg; have hcz45_0 : w44.cell? ⟨gb1828, 0, none⟩ = some (.int .i64 0) := (blk_cell BK1828.out 0).trans rfl; have hcz45_1 : w44.cell? ⟨gb1828, 1, none⟩ = some (.int .i64 0) := (blk_cell BK1828.out 1).trans rfl; have hcz45_2 : w44.cell? ⟨gb1828, 2, none⟩ = some (.int .i64 0) := (blk_cell BK1828.out 2).trans rfl; have hfz45_0 := blk_frozen BK1828.out 0; have hfz45_1 := blk_frozen BK1828.out 1; have hfz45_2 := blk_frozen BK1828.out 2) | (go_at_call 86; (with_reducible refine (impl_InRange.calls ((rd_T111 l0 x9_1).f1) 1 3000 false _ A6.out).mono ?_); rintro e w' ⟨rfl, ⟨nd, rfl⟩⟩))
        go_ret
        exact ⟨by first | rfl | (simp [errW_none, errW_some] <;> rfl) | (simp [*, errW_none, errW_some] <;> rfl), by repeat (first | (with_reducible first | exact HB.out | apply below_alloc | apply pw_below_drewN | apply below_drew1 | refine below_set ?_ GE1828.out) | exact HB.out)⟩
      ·
       rw [if_neg c5] at H
       have c5b0 : (((rd_T111 l0 x9_1).f0) == x3_1) = false := beq_eq_false_iff_ne.mpr c5
       have c5b1 : (((rd_T111 l0 x9_1).f0) != x3_1) = true := bne_iff_ne.mpr c5
       obtain rfl := Option.some.inj H
       have p1827 : 0 ≤ (x9_1 : Int) := of_decide_eq_true (by first | (with_reducible assumption) | assumption)
       have q1827 : x9_1 < (l0.length : Int) := of_decide_eq_true (by first | (with_reducible assumption) | assumption)
       obtain ⟨ad1827, e1827, hx1827_0, hx1827_1, hx1827_2⟩ := at_T111 HR0.out x9_1 p1827 q1827
       cases e1827
       replace hx1827_0 := (HB.out.cell (World.block_lt_of_cell? w _ hx1827_0)).trans hx1827_0
       replace hx1827_1 := (HB.out.cell (World.block_lt_of_cell? w _ hx1827_1)).trans hx1827_1
       replace hx1827_2 := (HB.out.cell (World.block_lt_of_cell? w _ hx1827_2)).trans hx1827_2
       replace p1827 := eq_true p1827
       replace q1827 := eq_true q1827
       go_wp2_with (first | ((with_reducible refine gate_dst (N := 5) rfl ?_); refine box_event ?hg (N := 5) ?hd (cs := #[.int .i64 0, .int .i64 0, .int .i64 0]) (t := 111) ?hr ?_; (case hd => rfl); (case hg => rfl); (case hr => first | (go_simp; done) | (go_simp; rfl)); intro gb1828 hg w46 hbox hb; have n0_ := Aside0.mk (below_step (by repeat (first | (with_reducible first | exact HB.out | apply below_alloc | apply pw_below_drewN | apply below_drew1) | exact HB.out)) hb); have n1_ := Aside0.mk (hbox); have n2_ := Aside0.mk ((by rw [hg]; exact (below_size (by repeat (first | (with_reducible first | exact HB.out | apply below_alloc | apply pw_below_drewN | apply below_drew1) | exact HB.out))) : w.heap.size ≤ gb1828)); have n3_ := Aside0.mk ((by rw [hg]; exact (below_size (by repeat (first | (with_reducible first | exact HB.out | apply below_alloc | apply pw_below_drewN | apply below_drew1) | exact HB.out))) : w.heap.size ≤ gb1828)); clear HB; have HB := n0_; have BK1828 := n1_; have GW1828 := n2_; have GE1828 := n3_; clear n0_ n1_ n2_ n3_; clear hb hbox hg; have hcz47_0 : w46.cell? ⟨gb1828, 0, none⟩ = some (.int .i64 0) := (blk_cell BK1828.out 0).trans rfl; have hcz47_1 : w46.cell? ⟨gb1828, 1, none⟩ = some (.int .i64 0) := (blk_cell BK1828.out 1).trans rfl; have hcz47_2 : w46.cell? ⟨gb1828, 2, none⟩ = some (.int .i64 0) := (blk_cell BK1828.out 2).trans rfl; have hfz47_0 := blk_frozen BK1828.out 0; have hfz47_1 := blk_frozen BK1828.out 1; have hfz47_2 := blk_frozen BK1828.out 2))
       go_ret
       exact ⟨by first | rfl | (simp [errW_none, errW_some] <;> rfl) | (simp [*, errW_none, errW_some] <;> rfl), by repeat (first | (with_reducible first | exact HB.out | apply below_alloc | apply pw_below_drewN | apply below_drew1 | refine below_set ?_ GE1828.out) | exact HB.out)⟩
     ·
      rw [if_neg c4] at H
      exact absurd H (by simp)
    ·
     rw [if_neg c3] at H
     exact absurd H (by simp)
   ·
    rw [if_neg c2] at H
    have c2b0 : decide (x9_1 < (l0.length : Int)) = false := decide_eq_false c2
    clear c2
    obtain rfl := Option.some.inj H
    go_wp2
    go_ret
    exact ⟨by first | rfl | (simp [errW_none, errW_some] <;> rfl) | (simp [*, errW_none, errW_some] <;> rfl), by repeat (first | (with_reducible first | exact HB.out | apply below_alloc | apply pw_below_drewN | apply below_drew1) | exact HB.out)⟩
end Go.Proofs.Ytbhlmeghbfmgiaa.F

namespace Go.Proofs.Ytbhlmeghbfmgiaa.F
open Go.RowKit Go.Proofs.YtbhlmeghbfmgiaaW.PrintWords Go.Proofs.YtbhlmeghbfmgiaaW.PrintLast Go.Proofs.YtbhlmeghbfmgiaaW.PrintMore
attribute [local go_sem] max2_int min2_int max_two min_two max_three min_three max_four min_four
set_option linter.unusedVariables false
set_option linter.unusedSimpArgs false
def impl_EventsOf.l0 : Nat → Int → List (S26) → List (S111) → Int → Int → Option ((List (S26)))
 | 0, _, _, _, _, _ => none
 | k + 1, x1, x5, x11, x12, x13 => if x13 < x12 then (if 0 ≤ x13 then (if x13 < (x11.length : Int) then (if ((rd_T111 x11 x13).f2) = 0 then (impl_EventsOf.l0 k x1 x5 x11 x12 (wrap64 (x13 + 1))) else (if x5.length < 4398046511104 then (impl_EventsOf.l0 k x1 (x5 ++ [(⟨(rd_T111 x11 x13).f0, (rd_T111 x11 x13).f1, (rd_T111 x11 x13).f2, x1⟩ : S26)]) x11 x12 (wrap64 (x13 + 1))) else (none))) else (none)) else (none)) else (some x5)
def impl_EventsOf.f (k : Nat) (l0 : List (S111)) (a1 : Int) : Option ((List (S26))) := (some (([] : List (S26)) : List (S26))).bind fun y1833 => ((impl_IsPart.f k l0).bind fun t1836 => (if t1836 = true then (impl_EventsOf.l0 k a1 y1833 l0 (l0.length : Int) 0) else (some y1833)))
set_option maxHeartbeats 8000000 in
set_option maxRecDepth 100000 in
theorem impl_EventsOf.calls (k : Nat) (A0 : Option Addr) (c0 : Nat) (l0 : List (S111)) (a1 : Int) (r : List (S26)) (w : World) (hr0 : Kd.C k111 w A0 l0.length l0) (hc0 : l0.length ≤ c0) (h : impl_EventsOf.f k l0 a1 = some r) :
  Calls Try.prog 70 #[.slice A0 l0.length c0, .int .i64 a1] w fun e w' => ∃ v0_ : Value, e = .returned (v0_) ∧ Kd.R k26 26 w' w.heap.size (fun _ => True) v0_ r ∧ Below w.heap.size w w' := by
 have hu111 := Try.underlying111
 have hu26 := Try.underlying26
 have HR0 := Aside0.mk hr0
 have HC0 := Aside0.mk hc0
 clear hr0 hc0
 have HB := Aside0.mk (Below.refl w.heap.size w)
 have H : ((some (([] : List (S26)) : List (S26))).bind fun y1833 => ((impl_IsPart.f k l0).bind fun t1836 => (if t1836 = true then (impl_EventsOf.l0 k a1 y1833 l0 (l0.length : Int) 0) else (some y1833)))) = some r := h
 clear h
 obtain ⟨y1833, hy1833⟩ : ∃ y_ : List (S26), y_ = (([] : List (S26))) := ⟨_, rfl⟩
 replace H : ((impl_IsPart.f k l0).bind fun t1836 => (if t1836 = true then (impl_EventsOf.l0 k a1 y1833 l0 (l0.length : Int) 0) else (some y1833))) = some r := by first | (rw [hy1833]; with_reducible exact H) | (have H2_ := (Option.bind_some _ _).symm.trans H; rw [hy1833]; with_reducible exact H2_) | (have H2_ := (Option.bind_some _ _).symm.trans H; with_reducible exact H2_) | with_reducible exact H | (rw [hy1833]; exact H) | exact H
 have Ny1833 := Aside0.mk hy1833
 clear hy1833
 replace H := Option.bind_eq_some_iff.mp H
 obtain ⟨t1836, A30, H⟩ := H
 try dsimp only at H
 have A3 := Aside0.mk A30
 clear A30
 by_cases c4 : t1836 = true
 ·
  subst c4
  rw [if_pos rfl] at H
  have H' := Aside0.mk H
  clear H
  go_enter Try.func70, Try.ntmps70
  go_wp2_with (first | ((with_reducible refine gate_dst (N := 8) rfl ?_); refine Kd.R_lit k26 _ 26 ?hg (N := 8) ?hd (xs := ([] : List (S26))) (inner := []) (ok := fun _ => True) (okp := fun _ => True) ?hr ?hp (fun _ hk => hk) trivial (Below.refl _ _) (Nat.le_refl _) (by simp) ?_; (case hd => rfl); (case hg => rfl); (case hr => first | (go_simp; done) | (go_simp; rfl)); (case hp => exact (Reps.none _ _)); intro v1834 w5 ho6 hb hg_ hnew_; clear hg_ hnew_; (first | rw [← Ny1833.out] at ho6 | (simp only [Int.reduceToNat] at ho6; rw [← Ny1833.out] at ho6)); have n0_ := Aside0.mk (Kd.R_lower ho6 (below_size (by repeat (first | (with_reducible first | exact HB.out | apply below_alloc | apply pw_below_drewN | apply below_drew1) | exact HB.out)))); have n1_ := Aside0.mk (below_step (by repeat (first | (with_reducible first | exact HB.out | apply below_alloc | apply pw_below_drewN | apply below_drew1) | exact HB.out)) hb); clear HB; have HO1835 := n0_; have HB := n1_; clear n0_ n1_; clear hb ho6) | ((with_reducible refine gate_callee (f := 69) rfl ?_); refine goesL_ (some 10) rfl rfl Try.func69 (by kernel_rfl) rfl #[.slice A0 l0.length c0] rfl (by (try simp only [List.map_toArray, List.map_cons, List.map_nil]); first | done | rfl | (simp only [List.length_drop, List.length_take]; rfl)) ?_; (with_reducible refine (impl_IsPart.calls k _ _ l0 true _ ?side1 ?side2 A3.out).mono ?_); (case side1 => repeat (first | exact (Kd.C_below HR0.out HB.out) | (with_reducible refine Kd.C_alloc ?_ _) | (with_reducible refine Kd.C_drewN ?_ _) | (with_reducible refine Kd.C_drew ?_))); (case side2 => exact HC0.out); rintro e w7 ⟨rfl, hb⟩; refine ⟨_, rfl, ?_⟩; have n0_ := Aside0.mk (Kd.R_below (by (with_reducible repeat (first | apply Kd.R_alloc | apply Kd.R_drewN | apply Kd.R_drew)); exact HO1835.out) hb); have n1_ := Aside0.mk (below_step (by repeat (first | (with_reducible first | exact HB.out | apply below_alloc | apply pw_below_drewN | apply below_drew1) | exact HB.out)) hb); clear HO1835; clear HB; have HO1835 := n0_; have HB := n1_; clear n0_ n1_; (try clear hb); (try clear hb2); (try clear hk); (try clear hi)))
  go_loopg [5, 13] k (fun kq v5 v13 w' => ∃ (x5_1 : List (S26)) (x13_1 : Int), v13 = .int .i64 x13_1 ∧ Aside0 (impl_EventsOf.l0 kq a1 x5_1 l0 (l0.length : Int) x13_1 = some r) ∧ Aside0 (kq ≤ k) ∧ Aside0 (Kd.R k26 26 w' w.heap.size (fun _ => True) v5 x5_1) ∧ Aside0 (Below w.heap.size w w'))
  case atStart => exact ⟨(y1833), (0), (by first | rfl | (simp; done) | (simp [*]; done)), H', ⟨Nat.le_refl _⟩, ⟨by (with_reducible repeat (first | apply Kd.R_alloc | apply Kd.R_drewN | apply Kd.R_drew)); exact HO1835.out⟩, ⟨by repeat (first | (with_reducible first | exact HB.out | apply below_alloc | apply pw_below_drewN | apply below_drew1) | exact HB.out)⟩⟩
  case round =>
   clear H'
   try clear p2
   try clear c4
   try clear c6
   try clear c7
   obtain ⟨x5_1, x13_1, rfl, HA, HK1, HO_5, HB⟩ := hrel
   cases gk with
   | zero => exact absurd HA.out (by simp [impl_EventsOf.l0])
   | succ k1 =>
    have H := HA.out
    clear HA
    simp only [impl_EventsOf.l0] at H
    by_cases c8 : x13_1 < (l0.length : Int)
    ·
     rw [if_pos c8] at H
     have c8b0 : decide (x13_1 < (l0.length : Int)) = true := decide_eq_true c8
     clear c8
     by_cases c9 : 0 ≤ x13_1
     ·
      rw [if_pos c9] at H
      have c9b0 : decide (0 ≤ x13_1) = true := decide_eq_true c9
      clear c9
      by_cases c10 : x13_1 < (l0.length : Int)
      ·
       rw [if_pos c10] at H
       have c10b0 : decide (x13_1 < (l0.length : Int)) = true := decide_eq_true c10
       clear c10
       by_cases c11 : ((rd_T111 l0 x13_1).f2) = 0
       ·
        rw [if_pos c11] at H
        have c11b0 : (((rd_T111 l0 x13_1).f2) == 0) = true := beq_iff_eq.mpr c11
        have c11b1 : (((rd_T111 l0 x13_1).f2) != 0) = false := bne_eq_false_iff_eq.mpr c11
        clear c11
        have H' := Aside0.mk H
        clear H
        have p1837 : 0 ≤ (x13_1 : Int) := of_decide_eq_true (by first | (with_reducible assumption) | assumption)
        have q1837 : x13_1 < (l0.length : Int) := of_decide_eq_true (by first | (with_reducible assumption) | assumption)
        obtain ⟨ad1837, e1837, hx1837_0, hx1837_1, hx1837_2⟩ := at_T111 HR0.out x13_1 p1837 q1837
        cases e1837
        replace hx1837_0 := (HB.out.cell (World.block_lt_of_cell? w _ hx1837_0)).trans hx1837_0
        replace hx1837_1 := (HB.out.cell (World.block_lt_of_cell? w _ hx1837_1)).trans hx1837_1
        replace hx1837_2 := (HB.out.cell (World.block_lt_of_cell? w _ hx1837_2)).trans hx1837_2
        replace p1837 := eq_true p1837
        replace q1837 := eq_true q1837
        go_wp2_with (first | ((with_reducible refine gate_dst (N := 7) rfl ?_); refine box_event ?hg (N := 7) ?hd (cs := #[.int .i64 0, .int .i64 0, .int .i64 0]) (t := 111) ?hr ?_; (case hd => rfl); (case hg => rfl); (case hr => first | (go_simp; done) | (go_simp; rfl)); intro gb1838 hg w12 hbox hb; have n0_ := Aside0.mk (Kd.R_below (by (with_reducible repeat (first | apply Kd.R_alloc | apply Kd.R_drewN | apply Kd.R_drew)); exact HO_5.out) hb); have n1_ := Aside0.mk (below_step (by repeat (first | (with_reducible first | exact HB.out | apply below_alloc | apply pw_below_drewN | apply below_drew1) | exact HB.out)) hb); have n2_ := Aside0.mk (hbox); have n3_ := Aside0.mk ((by rw [hg]; exact (below_size (by repeat (first | (with_reducible first | exact HB.out | apply below_alloc | apply pw_below_drewN | apply below_drew1) | exact HB.out))) : w.heap.size ≤ gb1838)); have n4_ := Aside0.mk ((by rw [hg]; exact (below_size (by repeat (first | (with_reducible first | exact HB.out | apply below_alloc | apply pw_below_drewN | apply below_drew1) | exact HB.out))) : w.heap.size ≤ gb1838)); clear HO_5; clear HB; have HO_5 := n0_; have HB := n1_; have BK1838 := n2_; have GW1838 := n3_; have GE1838 := n4_; clear n0_ n1_ n2_ n3_ n4_; clear hb hbox hg; have hcz13_0 : w12.cell? ⟨gb1838, 0, none⟩ = some (.int .i64 0) := (blk_cell BK1838.out 0).trans rfl; have hcz13_1 : w12.cell? ⟨gb1838, 1, none⟩ = some (.int .i64 0) := (blk_cell BK1838.out 1).trans rfl; have hcz13_2 : w12.cell? ⟨gb1838, 2, none⟩ = some (.int .i64 0) := (blk_cell BK1838.out 2).trans rfl; have hfz13_0 := blk_frozen BK1838.out 0; have hfz13_1 := blk_frozen BK1838.out 1; have hfz13_2 := blk_frozen BK1838.out 2))
        go_roundg k1
        case measure => have := HK1.out; omega
        case rel => exact ⟨(x5_1), (wrap64 (x13_1 + 1)), (by first | rfl | (simp; done) | (simp [*]; done)), H', ⟨by have := HK1.out; omega⟩, ⟨by (with_reducible repeat (first | apply Kd.R_alloc | apply Kd.R_drewN | apply Kd.R_drew)); exact Kd.R_mono (Kd.R_far (p := ⟨gb1838, 2, none⟩) (Kd.R_far (p := ⟨gb1838, 1, none⟩) (Kd.R_far (p := ⟨gb1838, 0, none⟩) (Kd.R_types HO_5.out BK1838.out (by decide)) (fun _ hk => hk.2) (.int .i64 ((rd_T111 l0 x13_1).f0))) (fun _ hk => hk.2) (.int .i64 ((rd_T111 l0 x13_1).f1))) (fun _ hk => hk.2) (.int .i64 ((rd_T111 l0 x13_1).f2))) (fun _ hk => trivial)⟩, ⟨by repeat (first | (with_reducible first | exact HB.out | apply below_alloc | apply pw_below_drewN | apply below_drew1 | refine below_set ?_ GE1838.out) | exact HB.out)⟩⟩
       ·
        rw [if_neg c11] at H
        have c11b0 : (((rd_T111 l0 x13_1).f2) == 0) = false := beq_eq_false_iff_ne.mpr c11
        have c11b1 : (((rd_T111 l0 x13_1).f2) != 0) = true := bne_iff_ne.mpr c11
        by_cases c14 : x5_1.length < 4398046511104
        ·
         rw [if_pos c14] at H
         have LMc14 := Aside0.mk c14
         clear c14
         obtain ⟨y1839, hy1839⟩ : ∃ y_ : List (S26), y_ = (x5_1 ++ [(⟨(rd_T111 l0 x13_1).f0, (rd_T111 l0 x13_1).f1, (rd_T111 l0 x13_1).f2, a1⟩ : S26)]) := ⟨_, rfl⟩
         replace H : (impl_EventsOf.l0 k1 a1 y1839 l0 (l0.length : Int) (wrap64 (x13_1 + 1))) = some r := by first | (rw [hy1839]; with_reducible exact H) | (have H2_ := (Option.bind_some _ _).symm.trans H; rw [hy1839]; with_reducible exact H2_) | (have H2_ := (Option.bind_some _ _).symm.trans H; with_reducible exact H2_) | with_reducible exact H | (rw [hy1839]; exact H) | exact H
         have Ny1839 := Aside0.mk hy1839
         clear hy1839
         have H' := Aside0.mk H
         clear H
         have p1837 : 0 ≤ (x13_1 : Int) := of_decide_eq_true (by first | (with_reducible assumption) | assumption)
         have q1837 : x13_1 < (l0.length : Int) := of_decide_eq_true (by first | (with_reducible assumption) | assumption)
         obtain ⟨ad1837, e1837, hx1837_0, hx1837_1, hx1837_2⟩ := at_T111 HR0.out x13_1 p1837 q1837
         cases e1837
         replace hx1837_0 := (HB.out.cell (World.block_lt_of_cell? w _ hx1837_0)).trans hx1837_0
         replace hx1837_1 := (HB.out.cell (World.block_lt_of_cell? w _ hx1837_1)).trans hx1837_1
         replace hx1837_2 := (HB.out.cell (World.block_lt_of_cell? w _ hx1837_2)).trans hx1837_2
         replace p1837 := eq_true p1837
         replace q1837 := eq_true q1837
         go_wp2_with (first | ((with_reducible refine gate_dst (N := 7) rfl ?_); refine box_event ?hg (N := 7) ?hd (cs := #[.int .i64 0, .int .i64 0, .int .i64 0]) (t := 111) ?hr ?_; (case hd => rfl); (case hg => rfl); (case hr => first | (go_simp; done) | (go_simp; rfl)); intro gb1838 hg w15 hbox hb; have n0_ := Aside0.mk (Kd.R_below (by (with_reducible repeat (first | apply Kd.R_alloc | apply Kd.R_drewN | apply Kd.R_drew)); exact HO_5.out) hb); have n1_ := Aside0.mk (below_step (by repeat (first | (with_reducible first | exact HB.out | apply below_alloc | apply pw_below_drewN | apply below_drew1) | exact HB.out)) hb); have n2_ := Aside0.mk (hbox); have n3_ := Aside0.mk ((by rw [hg]; exact (below_size (by repeat (first | (with_reducible first | exact HB.out | apply below_alloc | apply pw_below_drewN | apply below_drew1) | exact HB.out))) : w.heap.size ≤ gb1838)); have n4_ := Aside0.mk ((by rw [hg]; exact (below_size (by repeat (first | (with_reducible first | exact HB.out | apply below_alloc | apply pw_below_drewN | apply below_drew1) | exact HB.out))) : w.heap.size ≤ gb1838)); clear HO_5; clear HB; have HO_5 := n0_; have HB := n1_; have BK1838 := n2_; have GW1838 := n3_; have GE1838 := n4_; clear n0_ n1_ n2_ n3_ n4_; clear hb hbox hg; have hcz16_0 : w15.cell? ⟨gb1838, 0, none⟩ = some (.int .i64 0) := (blk_cell BK1838.out 0).trans rfl; have hcz16_1 : w15.cell? ⟨gb1838, 1, none⟩ = some (.int .i64 0) := (blk_cell BK1838.out 1).trans rfl; have hcz16_2 : w15.cell? ⟨gb1838, 2, none⟩ = some (.int .i64 0) := (blk_cell BK1838.out 2).trans rfl; have hfz16_0 := blk_frozen BK1838.out 0; have hfz16_1 := blk_frozen BK1838.out 1; have hfz16_2 := blk_frozen BK1838.out 2) | ((with_reducible refine gate_builtin (b := .append) (xs := #[.tmp 20, .tmp 29]) rfl ?_); at_builtin; refine Kd.R_append k26 (w0 := w) w.heap.size rfl (.tmp 20) (.tmp 29) 24 26 (.agg #[(.int .i64 0), (.int .i64 0), (.int .i64 0), (.int .i64 0)]) 32 rfl Try.underlying24 info26 rfl (by decide) (by omega) u5 x5_1 (⟨(rd_T111 l0 x13_1).f0, (rd_T111 l0 x13_1).f1, (rd_T111 l0 x13_1).f2, a1⟩ : S26) [.int .i64 ((rd_T111 l0 x13_1).f0), .int .i64 ((rd_T111 l0 x13_1).f1), .int .i64 ((rd_T111 l0 x13_1).f2), .int .i64 a1] (fun _ => True) (fun _ => False) rfl (by first | (go_simp; done) | (go_simp; rfl)) ?aP (fun _ hk => hk.elim) ?aF ?aO ?aB ?aS ?aL ?_; (case aP => exact k26_mkM _ _ _ (⟨(rd_T111 l0 x13_1).f0, (rd_T111 l0 x13_1).f1, (rd_T111 l0 x13_1).f2, a1⟩ : S26)); (case aB => exact (by repeat (first | (with_reducible first | exact HB.out | apply below_alloc | apply pw_below_drewN | apply below_drew1 | refine below_set ?_ GE1838.out) | exact HB.out))); (case aF => exact (fun _ _ => trivial)); (case aO => exact (by (with_reducible repeat (first | apply Kd.R_alloc | apply Kd.R_drewN | apply Kd.R_drew)); exact Kd.R_mono (Kd.R_far (p := ⟨gb1838, 2, none⟩) (Kd.R_far (p := ⟨gb1838, 1, none⟩) (Kd.R_far (p := ⟨gb1838, 0, none⟩) (Kd.R_types HO_5.out BK1838.out (by decide)) (fun _ hk => hk.2) (.int .i64 ((rd_T111 l0 x13_1).f0))) (fun _ hk => hk.2) (.int .i64 ((rd_T111 l0 x13_1).f1))) (fun _ hk => hk.2) (.int .i64 ((rd_T111 l0 x13_1).f2))) (fun _ hk => trivial))); (case aS => exact (below_size (by repeat (first | (with_reducible first | exact HB.out | apply below_alloc | apply pw_below_drewN | apply below_drew1 | refine below_set ?_ GE1838.out) | exact HB.out)))); (case aL => have := LMc14.out; omega); intro v1840 w17 ho hb hg hat; rw [← Ny1839.out] at ho; have n0_ := Aside0.mk (blk_grown (g := gb1838) (o := .cells #[.int .i64 ((rd_T111 l0 x13_1).f0), .int .i64 ((rd_T111 l0 x13_1).f1), .int .i64 ((rd_T111 l0 x13_1).f2)] 111 (0, 0)) (by (with_reducible repeat (first | refine blk_drewN ?_ _ | refine blk_drew ?_ | refine blk_alloc ?_ _)); refine blk_put (cs := #[.int .i64 ((rd_T111 l0 x13_1).f0), .int .i64 ((rd_T111 l0 x13_1).f1), .int .i64 0]) ?_ 2 _ rfl; (with_reducible repeat (first | refine blk_drewN ?_ _ | refine blk_drew ?_ | refine blk_alloc ?_ _)); refine blk_put (cs := #[.int .i64 ((rd_T111 l0 x13_1).f0), .int .i64 0, .int .i64 0]) ?_ 1 _ rfl; (with_reducible repeat (first | refine blk_drewN ?_ _ | refine blk_drew ?_ | refine blk_alloc ?_ _)); refine blk_put (cs := #[.int .i64 0, .int .i64 0, .int .i64 0]) ?_ 0 _ rfl; (with_reducible repeat (first | refine blk_drewN ?_ _ | refine blk_drew ?_ | refine blk_alloc ?_ _)); exact BK1838.out) hg (Kd.R_ne HO_5.out BK1838.out (by decide))); have n1_ := Aside0.mk (hb); have n2_ := Aside0.mk (ho); clear BK1838; clear HB; clear HO_5; have BK1838 := n0_; have HB := n1_; have HO1841 := n2_; clear n0_ n1_ n2_; clear ho hb hg hat))
         go_roundg k1
         case measure => have := HK1.out; omega
         case rel => exact ⟨(y1839), (wrap64 (x13_1 + 1)), (by first | rfl | (simp; done) | (simp [*]; done)), H', ⟨by have := HK1.out; omega⟩, ⟨by (with_reducible repeat (first | apply Kd.R_alloc | apply Kd.R_drewN | apply Kd.R_drew)); exact HO1841.out⟩, ⟨by repeat (first | (with_reducible first | exact HB.out | apply below_alloc | apply pw_below_drewN | apply below_drew1 | refine below_set ?_ GE1838.out) | exact HB.out)⟩⟩
        ·
         rw [if_neg c14] at H
         exact absurd H (by simp)
      ·
       rw [if_neg c10] at H
       exact absurd H (by simp)
     ·
      rw [if_neg c9] at H
      exact absurd H (by simp)
    ·
     rw [if_neg c8] at H
     have c8b0 : decide (x13_1 < (l0.length : Int)) = false := decide_eq_false c8
     clear c8
     obtain rfl := Option.some.inj H
     go_wp2
     go_ret
     exact ⟨_, by first | rfl | (simp [errW_none, errW_some] <;> rfl) | (simp [*, errW_none, errW_some] <;> rfl), by (with_reducible repeat (first | apply Kd.R_alloc | apply Kd.R_drewN | apply Kd.R_drew)); exact HO_5.out, by repeat (first | (with_reducible first | exact HB.out | apply below_alloc | apply pw_below_drewN | apply below_drew1) | exact HB.out)⟩
 ·
  replace c4 := Bool.eq_false_iff.mpr c4
  subst c4
  rw [if_neg (show ¬ (false = true) by decide)] at H
  obtain rfl := Option.some.inj H
  go_enter Try.func70, Try.ntmps70
  go_wp2_with (first | ((with_reducible refine gate_dst (N := 8) rfl ?_); refine Kd.R_lit k26 _ 26 ?hg (N := 8) ?hd (xs := ([] : List (S26))) (inner := []) (ok := fun _ => True) (okp := fun _ => True) ?hr ?hp (fun _ hk => hk) trivial (Below.refl _ _) (Nat.le_refl _) (by simp) ?_; (case hd => rfl); (case hg => rfl); (case hr => first | (go_simp; done) | (go_simp; rfl)); (case hp => exact (Reps.none _ _)); intro v1834 w18 ho19 hb hg_ hnew_; clear hg_ hnew_; (first | rw [← Ny1833.out] at ho19 | (simp only [Int.reduceToNat] at ho19; rw [← Ny1833.out] at ho19)); have n0_ := Aside0.mk (Kd.R_lower ho19 (below_size (by repeat (first | (with_reducible first | exact HB.out | apply below_alloc | apply pw_below_drewN | apply below_drew1) | exact HB.out)))); have n1_ := Aside0.mk (below_step (by repeat (first | (with_reducible first | exact HB.out | apply below_alloc | apply pw_below_drewN | apply below_drew1) | exact HB.out)) hb); clear HB; have HO1835 := n0_; have HB := n1_; clear n0_ n1_; clear hb ho19) | ((with_reducible refine gate_callee (f := 69) rfl ?_); refine goesL_ (some 10) rfl rfl Try.func69 (by kernel_rfl) rfl #[.slice A0 l0.length c0] rfl (by (try simp only [List.map_toArray, List.map_cons, List.map_nil]); first | done | rfl | (simp only [List.length_drop, List.length_take]; rfl)) ?_; (with_reducible refine (impl_IsPart.calls k _ _ l0 false _ ?side1 ?side2 A3.out).mono ?_); (case side1 => repeat (first | exact (Kd.C_below HR0.out HB.out) | (with_reducible refine Kd.C_alloc ?_ _) | (with_reducible refine Kd.C_drewN ?_ _) | (with_reducible refine Kd.C_drew ?_))); (case side2 => exact HC0.out); rintro e w20 ⟨rfl, hb⟩; refine ⟨_, rfl, ?_⟩; have n0_ := Aside0.mk (Kd.R_below (by (with_reducible repeat (first | apply Kd.R_alloc | apply Kd.R_drewN | apply Kd.R_drew)); exact HO1835.out) hb); have n1_ := Aside0.mk (below_step (by repeat (first | (with_reducible first | exact HB.out | apply below_alloc | apply pw_below_drewN | apply below_drew1) | exact HB.out)) hb); clear HO1835; clear HB; have HO1835 := n0_; have HB := n1_; clear n0_ n1_; (try clear hb); (try clear hb2); (try clear hk); (try clear hi)))
  go_ret
  exact ⟨_, by first | rfl | (simp [errW_none, errW_some] <;> rfl) | (simp [*, errW_none, errW_some] <;> rfl), by (with_reducible repeat (first | apply Kd.R_alloc | apply Kd.R_drewN | apply Kd.R_drew)); exact HO1835.out, by repeat (first | (with_reducible first | exact HB.out | apply below_alloc | apply pw_below_drewN | apply below_drew1) | exact HB.out)⟩
end Go.Proofs.Ytbhlmeghbfmgiaa.F

namespace Go.Proofs.Ytbhlmeghbfmgiaa.F
open Go.RowKit Go.Proofs.YtbhlmeghbfmgiaaW.PrintWords Go.Proofs.YtbhlmeghbfmgiaaW.PrintLast Go.Proofs.YtbhlmeghbfmgiaaW.PrintMore
attribute [local go_sem] max2_int min2_int max_two min_two max_three min_three max_four min_four
set_option linter.unusedVariables false
set_option linter.unusedSimpArgs false
def impl_CountNotes.l0 : Nat → Int → List (S111) → Int → Int → Option (Int)
 | 0, _, _, _, _ => none
 | k + 1, x3, x6, x7, x8 => if x8 < x7 then (if 0 ≤ x8 then (if x8 < (x6.length : Int) then (if ((rd_T111 x6 x8).f2) = 0 then (impl_CountNotes.l0 k x3 x6 x7 (wrap64 (x8 + 1))) else (impl_CountNotes.l0 k (wrap64 (x3 + 1)) x6 x7 (wrap64 (x8 + 1)))) else (none)) else (none)) else (some x3)
def impl_CountNotes.f (k : Nat) (l0 : List (S111)) : Option (Int) := impl_CountNotes.l0 k 0 l0 (l0.length : Int) 0
set_option maxHeartbeats 8000000 in
set_option maxRecDepth 100000 in
theorem impl_CountNotes.calls (k : Nat) (A0 : Option Addr) (c0 : Nat) (l0 : List (S111)) (r : Int) (w : World) (hr0 : Kd.C k111 w A0 l0.length l0) (hc0 : l0.length ≤ c0) (h : impl_CountNotes.f k l0 = some r) :
  Calls Try.prog 71 #[.slice A0 l0.length c0] w fun e w' => e = .returned (.int .i64 r) ∧ Below w.heap.size w w' := by
 have hu111 := Try.underlying111
 have HR0 := Aside0.mk hr0
 have HC0 := Aside0.mk hc0
 clear hr0 hc0
 have HB := Aside0.mk (Below.refl w.heap.size w)
 have H : (impl_CountNotes.l0 k 0 l0 (l0.length : Int) 0) = some r := h
 clear h
 have H' := Aside0.mk H
 clear H
 go_enter Try.func71, Try.ntmps71
 go_wp2
 go_loopg [3, 8] k (fun kq v3 v8 w' => ∃ (x3_1 : Int) (x8_1 : Int), v3 = .int .i64 x3_1 ∧ v8 = .int .i64 x8_1 ∧ Aside0 (impl_CountNotes.l0 kq x3_1 l0 (l0.length : Int) x8_1 = some r) ∧ Aside0 (kq ≤ k) ∧ Aside0 (Below w.heap.size w w'))
 case atStart => exact ⟨(0), (0), (by first | rfl | (simp; done) | (simp [*]; done)), (by first | rfl | (simp; done) | (simp [*]; done)), H', ⟨Nat.le_refl _⟩, ⟨by repeat (first | (with_reducible first | exact HB.out | apply below_alloc | apply pw_below_drewN | apply below_drew1) | exact HB.out)⟩⟩
 case round =>
  clear H'
  obtain ⟨x3_1, x8_1, rfl, rfl, HA, HK1, HB⟩ := hrel
  cases gk with
  | zero => exact absurd HA.out (by simp [impl_CountNotes.l0])
  | succ k1 =>
   have H := HA.out
   clear HA
   simp only [impl_CountNotes.l0] at H
   by_cases c2 : x8_1 < (l0.length : Int)
   ·
    rw [if_pos c2] at H
    have c2b0 : decide (x8_1 < (l0.length : Int)) = true := decide_eq_true c2
    clear c2
    by_cases c3 : 0 ≤ x8_1
    ·
     rw [if_pos c3] at H
     have c3b0 : decide (0 ≤ x8_1) = true := decide_eq_true c3
     clear c3
     by_cases c4 : x8_1 < (l0.length : Int)
     ·
      rw [if_pos c4] at H
      have c4b0 : decide (x8_1 < (l0.length : Int)) = true := decide_eq_true c4
      clear c4
      by_cases c5 : ((rd_T111 l0 x8_1).f2) = 0
      ·
       rw [if_pos c5] at H
       have c5b0 : (((rd_T111 l0 x8_1).f2) == 0) = true := beq_iff_eq.mpr c5
       have c5b1 : (((rd_T111 l0 x8_1).f2) != 0) = false := bne_eq_false_iff_eq.mpr c5
       clear c5
       have H' := Aside0.mk H
       clear H
       have p1842 : 0 ≤ (x8_1 : Int) := of_decide_eq_true (by first | (with_reducible assumption) | assumption)
       have q1842 : x8_1 < (l0.length : Int) := of_decide_eq_true (by first | (with_reducible assumption) | assumption)
       obtain ⟨ad1842, e1842, hx1842_0, hx1842_1, hx1842_2⟩ := at_T111 HR0.out x8_1 p1842 q1842
       cases e1842
       replace hx1842_0 := (HB.out.cell (World.block_lt_of_cell? w _ hx1842_0)).trans hx1842_0
       replace hx1842_1 := (HB.out.cell (World.block_lt_of_cell? w _ hx1842_1)).trans hx1842_1
       replace hx1842_2 := (HB.out.cell (World.block_lt_of_cell? w _ hx1842_2)).trans hx1842_2
       replace p1842 := eq_true p1842
       replace q1842 := eq_true q1842
       go_wp2_with (first | ((with_reducible refine gate_dst (N := 5) rfl ?_); refine box_event ?hg (N := 5) ?hd (cs := #[.int .i64 0, .int .i64 0, .int .i64 0]) (t := 111) ?hr ?_; (case hd => rfl); (case hg => rfl); (case hr => first | (go_simp; done) | (go_simp; rfl)); intro gb1843 hg w6 hbox hb; have n0_ := Aside0.mk (below_step (by repeat (first | (with_reducible first | exact HB.out | apply below_alloc | apply pw_below_drewN | apply below_drew1) | exact HB.out)) hb); have n1_ := Aside0.mk (hbox); have n2_ := Aside0.mk ((by rw [hg]; exact (below_size (by repeat (first | (with_reducible first | exact HB.out | apply below_alloc | apply pw_below_drewN | apply below_drew1) | exact HB.out))) : w.heap.size ≤ gb1843)); have n3_ := Aside0.mk ((by rw [hg]; exact (below_size (by repeat (first | (with_reducible first | exact HB.out | apply below_alloc | apply pw_below_drewN | apply below_drew1) | exact HB.out))) : w.heap.size ≤ gb1843)); clear HB; have HB := n0_; have BK1843 := n1_; have GW1843 := n2_; have GE1843 := n3_; clear n0_ n1_ n2_ n3_; clear hb hbox hg; have hcz7_0 : w6.cell? ⟨gb1843, 0, none⟩ = some (.int .i64 0) := (blk_cell BK1843.out 0).trans rfl; have hcz7_1 : w6.cell? ⟨gb1843, 1, none⟩ = some (.int .i64 0) := (blk_cell BK1843.out 1).trans rfl; have hcz7_2 : w6.cell? ⟨gb1843, 2, none⟩ = some (.int .i64 0) := (blk_cell BK1843.out 2).trans rfl; have hfz7_0 := blk_frozen BK1843.out 0; have hfz7_1 := blk_frozen BK1843.out 1; have hfz7_2 := blk_frozen BK1843.out 2))
       go_roundg k1
       case measure => have := HK1.out; omega
       case rel => exact ⟨(x3_1), (wrap64 (x8_1 + 1)), (by first | rfl | (simp; done) | (simp [*]; done)), (by first | rfl | (simp; done) | (simp [*]; done)), H', ⟨by have := HK1.out; omega⟩, ⟨by repeat (first | (with_reducible first | exact HB.out | apply below_alloc | apply pw_below_drewN | apply below_drew1 | refine below_set ?_ GE1843.out) | exact HB.out)⟩⟩
      ·
       rw [if_neg c5] at H
       have c5b0 : (((rd_T111 l0 x8_1).f2) == 0) = false := beq_eq_false_iff_ne.mpr c5
       have c5b1 : (((rd_T111 l0 x8_1).f2) != 0) = true := bne_iff_ne.mpr c5
       have H' := Aside0.mk H
       clear H
       have p1842 : 0 ≤ (x8_1 : Int) := of_decide_eq_true (by first | (with_reducible assumption) | assumption)
       have q1842 : x8_1 < (l0.length : Int) := of_decide_eq_true (by first | (with_reducible assumption) | assumption)
       obtain ⟨ad1842, e1842, hx1842_0, hx1842_1, hx1842_2⟩ := at_T111 HR0.out x8_1 p1842 q1842
       cases e1842
       replace hx1842_0 := (HB.out.cell (World.block_lt_of_cell? w _ hx1842_0)).trans hx1842_0
       replace hx1842_1 := (HB.out.cell (World.block_lt_of_cell? w _ hx1842_1)).trans hx1842_1
       replace hx1842_2 := (HB.out.cell (World.block_lt_of_cell? w _ hx1842_2)).trans hx1842_2
       replace p1842 := eq_true p1842
       replace q1842 := eq_true q1842
       go_wp2_with (first | ((with_reducible refine gate_dst (N := 5) rfl ?_); refine box_event ?hg (N := 5) ?hd (cs := #[.int .i64 0, .int .i64 0, .int .i64 0]) (t := 111) ?hr ?_; (case hd => rfl); (case hg => rfl); (case hr => first | (go_simp; done) | (go_simp; rfl)); intro gb1843 hg w8 hbox hb; have n0_ := Aside0.mk (below_step (by repeat (first | (with_reducible first | exact HB.out | apply below_alloc | apply pw_below_drewN | apply below_drew1) | exact HB.out)) hb); have n1_ := Aside0.mk (hbox); have n2_ := Aside0.mk ((by rw [hg]; exact (below_size (by repeat (first | (with_reducible first | exact HB.out | apply below_alloc | apply pw_below_drewN | apply below_drew1) | exact HB.out))) : w.heap.size ≤ gb1843)); have n3_ := Aside0.mk ((by rw [hg]; exact (below_size (by repeat (first | (with_reducible first | exact HB.out | apply below_alloc | apply pw_below_drewN | apply below_drew1) | exact HB.out))) : w.heap.size ≤ gb1843)); clear HB; have HB := n0_; have BK1843 := n1_; have GW1843 := n2_; have GE1843 := n3_; clear n0_ n1_ n2_ n3_; clear hb hbox hg; have hcz9_0 : w8.cell? ⟨gb1843, 0, none⟩ = some (.int .i64 0) := (blk_cell BK1843.out 0).trans rfl; have hcz9_1 : w8.cell? ⟨gb1843, 1, none⟩ = some (.int .i64 0) := (blk_cell BK1843.out 1).trans rfl; have hcz9_2 : w8.cell? ⟨gb1843, 2, none⟩ = some (.int .i64 0) := (blk_cell BK1843.out 2).trans rfl; have hfz9_0 := blk_frozen BK1843.out 0; have hfz9_1 := blk_frozen BK1843.out 1; have hfz9_2 := blk_frozen BK1843.out 2))
       go_roundg k1
       case measure => have := HK1.out; omega
       case rel => exact ⟨(wrap64 (x3_1 + 1)), (wrap64 (x8_1 + 1)), (by first | rfl | (simp; done) | (simp [*]; done)), (by first | rfl | (simp; done) | (simp [*]; done)), H', ⟨by have := HK1.out; omega⟩, ⟨by repeat (first | (with_reducible first | exact HB.out | apply below_alloc | apply pw_below_drewN | apply below_drew1 | refine below_set ?_ GE1843.out) | exact HB.out)⟩⟩
     ·
      rw [if_neg c4] at H
      exact absurd H (by simp)
    ·
     rw [if_neg c3] at H
     exact absurd H (by simp)
   ·
    rw [if_neg c2] at H
    have c2b0 : decide (x8_1 < (l0.length : Int)) = false := decide_eq_false c2
    clear c2
    obtain rfl := Option.some.inj H
    go_wp2
    go_ret
    exact ⟨by first | rfl | (simp [errW_none, errW_some] <;> rfl) | (simp [*, errW_none, errW_some] <;> rfl), by repeat (first | (with_reducible first | exact HB.out | apply below_alloc | apply pw_below_drewN | apply below_drew1) | exact HB.out)⟩
end Go.Proofs.Ytbhlmeghbfmgiaa.F

namespace Go.Proofs.Ytbhlmeghbfmgiaa.F
open Go.RowKit Go.Proofs.YtbhlmeghbfmgiaaW.PrintWords Go.Proofs.YtbhlmeghbfmgiaaW.PrintLast Go.Proofs.YtbhlmeghbfmgiaaW.PrintMore
attribute [local go_sem] max2_int min2_int max_two min_two max_three min_three max_four min_four
set_option linter.unusedVariables false
set_option linter.unusedSimpArgs false
def impl_LongestRest.l0 : Nat → Int → List (S111) → Int → Int → Option (Int)
 | 0, _, _, _, _ => none
 | k + 1, x3, x6, x7, x8 => if x8 < x7 then (if 0 ≤ x8 then (if x8 < (x6.length : Int) then (if ((rd_T111 x6 x8).f2) = 0 then (impl_LongestRest.l0 k (mx x3 ((rd_T111 x6 x8).f1)) x6 x7 (wrap64 (x8 + 1))) else (impl_LongestRest.l0 k x3 x6 x7 (wrap64 (x8 + 1)))) else (none)) else (none)) else (some x3)
def impl_LongestRest.f (k : Nat) (l0 : List (S111)) : Option (Int) := impl_LongestRest.l0 k 0 l0 (l0.length : Int) 0
set_option maxHeartbeats 8000000 in
set_option maxRecDepth 100000 in
theorem impl_LongestRest.calls (k : Nat) (A0 : Option Addr) (c0 : Nat) (l0 : List (S111)) (r : Int) (w : World) (hr0 : Kd.C k111 w A0 l0.length l0) (hc0 : l0.length ≤ c0) (h : impl_LongestRest.f k l0 = some r) :
  Calls Try.prog 72 #[.slice A0 l0.length c0] w fun e w' => e = .returned (.int .i64 r) ∧ Below w.heap.size w w' := by
 have hu111 := Try.underlying111
 have HR0 := Aside0.mk hr0
 have HC0 := Aside0.mk hc0
 clear hr0 hc0
 have HB := Aside0.mk (Below.refl w.heap.size w)
 have H : (impl_LongestRest.l0 k 0 l0 (l0.length : Int) 0) = some r := h
 clear h
 have H' := Aside0.mk H
 clear H
 go_enter Try.func72, Try.ntmps72
 go_wp2
 go_loopg [3, 8] k (fun kq v3 v8 w' => ∃ (x3_1 : Int) (x8_1 : Int), v3 = .int .i64 x3_1 ∧ v8 = .int .i64 x8_1 ∧ Aside0 (impl_LongestRest.l0 kq x3_1 l0 (l0.length : Int) x8_1 = some r) ∧ Aside0 (kq ≤ k) ∧ Aside0 (Below w.heap.size w w'))
 case atStart => exact ⟨(0), (0), (by first | rfl | (simp; done) | (simp [*]; done)), (by first | rfl | (simp; done) | (simp [*]; done)), H', ⟨Nat.le_refl _⟩, ⟨by repeat (first | (with_reducible first | exact HB.out | apply below_alloc | apply pw_below_drewN | apply below_drew1) | exact HB.out)⟩⟩
 case round =>
  clear H'
  obtain ⟨x3_1, x8_1, rfl, rfl, HA, HK1, HB⟩ := hrel
  cases gk with
  | zero => exact absurd HA.out (by simp [impl_LongestRest.l0])
  | succ k1 =>
   have H := HA.out
   clear HA
   simp only [impl_LongestRest.l0] at H
   by_cases c2 : x8_1 < (l0.length : Int)
   ·
    rw [if_pos c2] at H
    have c2b0 : decide (x8_1 < (l0.length : Int)) = true := decide_eq_true c2
    clear c2
    by_cases c3 : 0 ≤ x8_1
    ·
     rw [if_pos c3] at H
     have c3b0 : decide (0 ≤ x8_1) = true := decide_eq_true c3
     clear c3
     by_cases c4 : x8_1 < (l0.length : Int)
     ·
      rw [if_pos c4] at H
      have c4b0 : decide (x8_1 < (l0.length : Int)) = true := decide_eq_true c4
      clear c4
      by_cases c5 : ((rd_T111 l0 x8_1).f2) = 0
      ·
       rw [if_pos c5] at H
       have c5b0 : (((rd_T111 l0 x8_1).f2) == 0) = true := beq_iff_eq.mpr c5
       have c5b1 : (((rd_T111 l0 x8_1).f2) != 0) = false := bne_eq_false_iff_eq.mpr c5
       clear c5
       obtain ⟨ji6, hji6⟩ : ∃ j_ : Int, (mx x3_1 ((rd_T111 l0 x8_1).f1)) = j_ := ⟨_, rfl⟩
       replace H : (impl_LongestRest.l0 k1 ji6 l0 (l0.length : Int) (wrap64 (x8_1 + 1))) = some r := by first | (rw [hji6] at H; exact H) | (simp only [hji6] at H ⊢; exact H)
       have hji6_ : (if x3_1 < ((rd_T111 l0 x8_1).f1) then ((rd_T111 l0 x8_1).f1) else x3_1) = ji6 := hji6
       have H' := Aside0.mk H
       clear H
       have p1844 : 0 ≤ (x8_1 : Int) := of_decide_eq_true (by first | (with_reducible assumption) | assumption)
       have q1844 : x8_1 < (l0.length : Int) := of_decide_eq_true (by first | (with_reducible assumption) | assumption)
       obtain ⟨ad1844, e1844, hx1844_0, hx1844_1, hx1844_2⟩ := at_T111 HR0.out x8_1 p1844 q1844
       cases e1844
       replace hx1844_0 := (HB.out.cell (World.block_lt_of_cell? w _ hx1844_0)).trans hx1844_0
       replace hx1844_1 := (HB.out.cell (World.block_lt_of_cell? w _ hx1844_1)).trans hx1844_1
       replace hx1844_2 := (HB.out.cell (World.block_lt_of_cell? w _ hx1844_2)).trans hx1844_2
       replace p1844 := eq_true p1844
       replace q1844 := eq_true q1844
       go_wp2_with (first | ((with_reducible refine gate_dst (N := 5) rfl ?_); refine box_event ?hg (N := 5) ?hd (cs := #[.int .i64 0, .int .i64 0, .int .i64 0]) (t := 111) ?hr ?_; (case hd => rfl); (case hg => rfl); (case hr => first | (go_simp; done) | (go_simp; rfl)); intro gb1845 hg w7 hbox hb; have n0_ := Aside0.mk (below_step (by repeat (first | (with_reducible first | exact HB.out | apply below_alloc | apply pw_below_drewN | apply below_drew1) | exact HB.out)) hb); have n1_ := Aside0.mk (hbox); have n2_ := Aside0.mk ((by rw [hg]; exact (below_size (by repeat (first | (with_reducible first | exact HB.out | apply below_alloc | apply pw_below_drewN | apply below_drew1) | exact HB.out))) : w.heap.size ≤ gb1845)); have n3_ := Aside0.mk ((by rw [hg]; exact (below_size (by repeat (first | (with_reducible first | exact HB.out | apply below_alloc | apply pw_below_drewN | apply below_drew1) | exact HB.out))) : w.heap.size ≤ gb1845)); clear HB; have HB := n0_; have BK1845 := n1_; have GW1845 := n2_; have GE1845 := n3_; clear n0_ n1_ n2_ n3_; clear hb hbox hg; have hcz8_0 : w7.cell? ⟨gb1845, 0, none⟩ = some (.int .i64 0) := (blk_cell BK1845.out 0).trans rfl; have hcz8_1 : w7.cell? ⟨gb1845, 1, none⟩ = some (.int .i64 0) := (blk_cell BK1845.out 1).trans rfl; have hcz8_2 : w7.cell? ⟨gb1845, 2, none⟩ = some (.int .i64 0) := (blk_cell BK1845.out 2).trans rfl; have hfz8_0 := blk_frozen BK1845.out 0; have hfz8_1 := blk_frozen BK1845.out 1; have hfz8_2 := blk_frozen BK1845.out 2))
       go_roundg k1
       case measure => have := HK1.out; omega
       case rel => exact ⟨(ji6), (wrap64 (x8_1 + 1)), (by first | rfl | (simp; done) | (simp only [← hji6] <;> (first | rfl | simp)) | (simp [*]; done)), (by first | rfl | (simp; done) | (simp [*]; done)), H', ⟨by have := HK1.out; omega⟩, ⟨by repeat (first | (with_reducible first | exact HB.out | apply below_alloc | apply pw_below_drewN | apply below_drew1 | refine below_set ?_ GE1845.out) | exact HB.out)⟩⟩
      ·
       rw [if_neg c5] at H
       have c5b0 : (((rd_T111 l0 x8_1).f2) == 0) = false := beq_eq_false_iff_ne.mpr c5
       have c5b1 : (((rd_T111 l0 x8_1).f2) != 0) = true := bne_iff_ne.mpr c5
       have H' := Aside0.mk H
       clear H
       have p1844 : 0 ≤ (x8_1 : Int) := of_decide_eq_true (by first | (with_reducible assumption) | assumption)
       have q1844 : x8_1 < (l0.length : Int) := of_decide_eq_true (by first | (with_reducible assumption) | assumption)
       obtain ⟨ad1844, e1844, hx1844_0, hx1844_1, hx1844_2⟩ := at_T111 HR0.out x8_1 p1844 q1844
       cases e1844
       replace hx1844_0 := (HB.out.cell (World.block_lt_of_cell? w _ hx1844_0)).trans hx1844_0
       replace hx1844_1 := (HB.out.cell (World.block_lt_of_cell? w _ hx1844_1)).trans hx1844_1
       replace hx1844_2 := (HB.out.cell (World.block_lt_of_cell? w _ hx1844_2)).trans hx1844_2
       replace p1844 := eq_true p1844
       replace q1844 := eq_true q1844
       go_wp2_with (first | ((with_reducible refine gate_dst (N := 5) rfl ?_); refine box_event ?hg (N := 5) ?hd (cs := #[.int .i64 0, .int .i64 0, .int .i64 0]) (t := 111) ?hr ?_; (case hd => rfl); (case hg => rfl); (case hr => first | (go_simp; done) | (go_simp; rfl)); intro gb1845 hg w9 hbox hb; have n0_ := Aside0.mk (below_step (by repeat (first | (with_reducible first | exact HB.out | apply below_alloc | apply pw_below_drewN | apply below_drew1) | exact HB.out)) hb); have n1_ := Aside0.mk (hbox); have n2_ := Aside0.mk ((by rw [hg]; exact (below_size (by repeat (first | (with_reducible first | exact HB.out | apply below_alloc | apply pw_below_drewN | apply below_drew1) | exact HB.out))) : w.heap.size ≤ gb1845)); have n3_ := Aside0.mk ((by rw [hg]; exact (below_size (by repeat (first | (with_reducible first | exact HB.out | apply below_alloc | apply pw_below_drewN | apply below_drew1) | exact HB.out))) : w.heap.size ≤ gb1845)); clear HB; have HB := n0_; have BK1845 := n1_; have GW1845 := n2_; have GE1845 := n3_; clear n0_ n1_ n2_ n3_; clear hb hbox hg; have hcz10_0 : w9.cell? ⟨gb1845, 0, none⟩ = some (.int .i64 0) := (blk_cell BK1845.out 0).trans rfl; have hcz10_1 : w9.cell? ⟨gb1845, 1, none⟩ = some (.int .i64 0) := (blk_cell BK1845.out 1).trans rfl; have hcz10_2 : w9.cell? ⟨gb1845, 2, none⟩ = some (.int .i64 0) := (blk_cell BK1845.out 2).trans rfl; have hfz10_0 := blk_frozen BK1845.out 0; have hfz10_1 := blk_frozen BK1845.out 1; have hfz10_2 := blk_frozen BK1845.out 2))
       go_roundg k1
       case measure => have := HK1.out; omega
       case rel => exact ⟨(x3_1), (wrap64 (x8_1 + 1)), (by first | rfl | (simp; done) | (simp [*]; done)), (by first | rfl | (simp; done) | (simp [*]; done)), H', ⟨by have := HK1.out; omega⟩, ⟨by repeat (first | (with_reducible first | exact HB.out | apply below_alloc | apply pw_below_drewN | apply below_drew1 | refine below_set ?_ GE1845.out) | exact HB.out)⟩⟩
     ·
      rw [if_neg c4] at H
      exact absurd H (by simp)
    ·
     rw [if_neg c3] at H
     exact absurd H (by simp)
   ·
    rw [if_neg c2] at H
    have c2b0 : decide (x8_1 < (l0.length : Int)) = false := decide_eq_false c2
    clear c2
    obtain rfl := Option.some.inj H
    go_wp2
    go_ret
    exact ⟨by first | rfl | (simp [errW_none, errW_some] <;> rfl) | (simp [*, errW_none, errW_some] <;> rfl), by repeat (first | (with_reducible first | exact HB.out | apply below_alloc | apply pw_below_drewN | apply below_drew1) | exact HB.out)⟩
end Go.Proofs.Ytbhlmeghbfmgiaa.F
