/- FnExactPlayScore, part 6 of 7: texts of the claim, joined into one file. -/
import Derived.Test.YtiophiipmgpaeaaZFnExactPlayScore5
import Derived.Lib.OwnBridge
import Derived.Sort.OwnSortedInts
import Derived.Sort.Grow

namespace Go.Proofs.Ytiophiipmgpaeaa.F
open Go.RowKit Go.Proofs.YtiophiipmgpaeaaW.PrintWords Go.Proofs.YtiophiipmgpaeaaW.PrintLast Go.Proofs.YtiophiipmgpaeaaW.PrintMore
attribute [local go_sem] max2_int min2_int max_two min_two max_three min_three max_four min_four
set_option linter.unusedVariables false
set_option linter.unusedSimpArgs false
mutual
def impl_TimeOf.j0 : Nat → List (S140) → Int → Bool → Option (Int × Int × Bool)
 | 0, _, _, _ => none
 | k + 1, x0, x1, x21 => if x21 = true then (some (0, 0, false)) else (impl_TimeOf.l0 k x0 x1 x0 (x0.length : Int) 0 0 1)
def impl_TimeOf.l0 : Nat → List (S140) → Int → List (S140) → Int → Int → Int → Int → Option (Int × Int × Bool)
 | 0, _, _, _, _, _, _, _ => none
 | k + 1, x0, x1, x24, x25, x26, x1127000, x1127001 => if x26 < x25 then (if 0 ≤ x26 then (if x26 < (x24.length : Int) then (if (wrap64 (x26 + 1)) < (x0.length : Int) then (if 0 ≤ (wrap64 (x26 + 1)) then (impl_TimeOf.j2 k x0 x1 (mn x1 ((rd_T140 x0 (wrap64 (x26 + 1))).f0)) x24 x25 x26 x1127000 x1127001 ((rd_T140 x24 x26).f0) ((rd_T140 x24 x26).f1)) else (none)) else (impl_TimeOf.j2 k x0 x1 x1 x24 x25 x26 x1127000 x1127001 ((rd_T140 x24 x26).f0) ((rd_T140 x24 x26).f1))) else (none)) else (none)) else (some (x1127000, x1127001, true))
def impl_TimeOf.j2 : Nat → List (S140) → Int → Int → List (S140) → Int → Int → Int → Int → Int → Int → Option (Int × Int × Bool)
 | 0, _, _, _, _, _, _, _, _, _, _ => none
 | k + 1, x0, x1, x9, x24, x25, x26, x1127000, x1127001, x1129000, x1129001 => if x9 ≤ x1129000 then (some (x1127000, x1127001, true)) else ((impl_MakeRatio.f k (wrap64 ((wrap64 (x9 - x1129000)) * 5000)) x1129001).bind fun bt1130 => ((impl_AddRatio.f k x1127000 x1127001 bt1130.1 bt1130.2.1).bind fun bt1134 => (if bt1130.2.2 = true then (if bt1134.2.2 = true then (impl_TimeOf.l0 k x0 x1 x24 x25 (wrap64 (x26 + 1)) bt1134.1 bt1134.2.1) else (some (0, 0, false))) else (some (0, 0, false)))))
end
def impl_TimeOf.f (k : Nat) (l0 : List (S140)) (a1 : Int) : Option (Int × Int × Bool) := (impl_IsTempo.f k l0).bind fun t1124 => (if t1124 = true then ((impl_InRange.f a1 0 2000).bind fun t1125 => (impl_TimeOf.j0 k l0 a1 (!t1125))) else (impl_TimeOf.j0 k l0 a1 true))
set_option maxHeartbeats 8000000 in
set_option maxRecDepth 100000 in
theorem impl_TimeOf.calls (k : Nat) (A0 : Option Addr) (c0 : Nat) (l0 : List (S140)) (a1 : Int) (r1 : Int) (r2 : Int) (r3 : Bool) (w : World) (hr0 : Kd.C k140 w A0 l0.length l0) (hc0 : l0.length ≤ c0) (h : impl_TimeOf.f k l0 a1 = some (r1, r2, r3)) :
  Calls Try.prog 115 #[.slice A0 l0.length c0, .int .i64 a1] w fun e w' => e = .returned (.tuple #[.agg #[.int .i64 r1, .int .i64 r2], .bool r3]) ∧ Below w.heap.size w w' := by
 have hu134 := Try.underlying134
 have hu140 := Try.underlying140
 have HR0 := sk_' hr0
 have HC0 := sk_' hc0
 clear hr0 hc0
 have HB := sk_' (Below.refl w.heap.size w)
 have H : ((impl_IsTempo.f k l0).bind fun t1124 => (if t1124 = true then ((impl_InRange.f a1 0 2000).bind fun t1125 => (impl_TimeOf.j0 k l0 a1 (!t1125))) else (impl_TimeOf.j0 k l0 a1 true))) = some (r1, r2, r3) := h
 clear h
 have HC3 := sk_' H
 clear H
 go_enter Try.func115, Try.ntmps115
 go_upto_region 1 with (first | ((with_reducible refine gate_dst (N := 4) rfl ?_); refine box_event ?hg (N := 4) ?hd (cs := #[.int .i64 0, .int .i64 0]) (t := 134) ?hr ?_; (case hd => rfl); (case hg => rfl); (case hr => first | (go_simp; done) | (go_simp; rfl)); intro gb1123 hg w4 hbox hb; have n0_ := sk_' (pp_' (bm HB) hb); have n1_ := sk_' (hbox); have n2_ := sk_' ((by rw [hg]; exact (ps_' (bm HB)) : w.heap.size ≤ gb1123)); have n3_ := sk_' ((by rw [hg]; exact (ps_' (bm HB)) : w.heap.size ≤ gb1123)); clear HB; have HB := n0_; have BK1123 := n1_; have GW1123 := n2_; have GE1123 := n3_; clear n0_ n1_ n2_ n3_; clear hb hbox hg))
 (try simp only [Act.put, sa_', sz_', sc_'])
 go_cut [21] (fun v21 wc => ∃ (kq : Nat) (x21_2 : Bool), v21 = .bool x21_2 ∧ Aside0 (impl_TimeOf.j0 kq l0 a1 x21_2 = some (r1, r2, r3)) ∧ Aside0 (kq ≤ k) ∧ Aside0 (wc.heap[gb1123]? = some (.cells #[.int .i64 0, .int .i64 0] 134 (0, 0))) ∧ Aside0 (Below w.heap.size w wc))
 case first =>
  have H := HC3.out
  clear HC3
  replace H := bs_' H
  obtain ⟨t1124, A50, H⟩ := H
  try dsimp only at H
  have A5 := sk_' A50
  clear A50
  by_cases c6 : t1124 = true
  ·
   subst c6
   rw [if_pos rfl] at H
   replace H := bs_' H
   obtain ⟨t1125, A70, H⟩ := H
   try dsimp only at H
   have A7 := sk_' A70
   clear A70
   have H' := sk_' H
   clear H
   go_wp2_with (first | ((with_reducible refine xj_' (f := 151) rfl ?_); refine goesL_ (some 15) rfl rfl Try.func151 (by kernel_rfl) rfl #[.slice A0 l0.length c0] rfl (by (try simp only [xm_', xc_', xn_']); first | done | rfl | (simp only [xd_', xt_']; rfl)) ?_; (with_reducible refine (impl_IsTempo.calls k _ _ l0 true _ ?side1 ?side2 A5.out).mono ?_); (case side1 => repeat (first | exact (Kd.C_below HR0.out HB.out) | (with_reducible refine xg_' ?_ _) | (with_reducible refine xe_' ?_ _) | (with_reducible refine xf_' ?_))); (case side2 => exact HC0.out); rintro e w8 ⟨rfl, hb⟩; refine ⟨_, rfl, ?_⟩; have n0_ := sk_' (blk_below (g := gb1123) (o := .cells #[.int .i64 0, .int .i64 0] 134 (0, 0)) (by (with_reducible repeat (first | refine kn_' ?_ _ | refine kd_' ?_ | refine ka_' ?_ _)); exact BK1123.out) hb); have n1_ := sk_' (pp_' (by repeat (first | (with_reducible first | exact HB.out | apply pa_' | apply pn_' | apply pd_' | refine pt_' ?_ GE1123.out) | exact HB.out)) hb); clear BK1123; clear HB; have BK1123 := n0_; have HB := n1_; clear n0_ n1_; (try clear hb); (try clear hb2); (try clear hk); (try clear hi)) | (go_at_call 82; (with_reducible refine (impl_InRange.calls a1 0 2000 t1125 _ A7.out).mono ?_); rintro e w' ⟨rfl, ⟨nd, rfl⟩⟩))
   go_meet
   case rel => exact ⟨_, (!t1125), (by first | rfl | (simp; done) | (simp [*]; done)), H', ⟨by first | omega | exact Nat.le_refl _⟩, ⟨by (with_reducible repeat (first | refine kn_' ?_ _ | refine kd_' ?_ | refine ka_' ?_ _)); exact BK1123.out⟩, ⟨by repeat (first | (with_reducible first | exact HB.out | apply pa_' | apply pn_' | apply pd_' | refine pt_' ?_ GE1123.out) | exact HB.out)⟩⟩
  replace c6 := Bool.eq_false_iff.mpr c6
  subst c6
  rw [if_neg (show ¬ (false = true) by decide)] at H
  have H' := sk_' H
  clear H
  go_wp2_with (first | ((with_reducible refine xj_' (f := 151) rfl ?_); refine goesL_ (some 15) rfl rfl Try.func151 (by kernel_rfl) rfl #[.slice A0 l0.length c0] rfl (by (try simp only [xm_', xc_', xn_']); first | done | rfl | (simp only [xd_', xt_']; rfl)) ?_; (with_reducible refine (impl_IsTempo.calls k _ _ l0 false _ ?side1 ?side2 A5.out).mono ?_); (case side1 => repeat (first | exact (Kd.C_below HR0.out HB.out) | (with_reducible refine xg_' ?_ _) | (with_reducible refine xe_' ?_ _) | (with_reducible refine xf_' ?_))); (case side2 => exact HC0.out); rintro e w9 ⟨rfl, hb⟩; refine ⟨_, rfl, ?_⟩; have n0_ := sk_' (blk_below (g := gb1123) (o := .cells #[.int .i64 0, .int .i64 0] 134 (0, 0)) (by (with_reducible repeat (first | refine kn_' ?_ _ | refine kd_' ?_ | refine ka_' ?_ _)); exact BK1123.out) hb); have n1_ := sk_' (pp_' (by repeat (first | (with_reducible first | exact HB.out | apply pa_' | apply pn_' | apply pd_' | refine pt_' ?_ GE1123.out) | exact HB.out)) hb); clear BK1123; clear HB; have BK1123 := n0_; have HB := n1_; clear n0_ n1_; (try clear hb); (try clear hb2); (try clear hk); (try clear hi)))
  go_meet
  case rel => exact ⟨_, (true), (by first | rfl | (simp; done) | (simp [*]; done)), H', ⟨by first | omega | exact Nat.le_refl _⟩, ⟨by (with_reducible repeat (first | refine kn_' ?_ _ | refine kd_' ?_ | refine ka_' ?_ _)); exact BK1123.out⟩, ⟨by repeat (first | (with_reducible first | exact HB.out | apply pa_' | apply pn_' | apply pd_' | refine pt_' ?_ GE1123.out) | exact HB.out)⟩⟩
 case rest =>
  clear HC3
  try clear c1
  try clear p2
  try clear c6
  obtain ⟨kq, x21_2, rfl, HA, HJ2, BK1123, HB⟩ := hcut
  cases kq with
  | zero => exact absurd HA.out (by simp [impl_TimeOf.j0])
  | succ kj2 =>
   have H := HA.out
   clear HA
   simp only [impl_TimeOf.j0] at H
   by_cases c10 : x21_2 = true
   ·
    subst c10
    rw [if_pos rfl] at H
    simp only [Option.some.injEq, Prod.mk.injEq] at H
    obtain ⟨rfl, rfl, rfl⟩ := H
    have hcz11_0 : wc.cell? ⟨gb1123, 0, none⟩ = some (.int .i64 0) := (kc_' BK1123.out 0).trans rfl
    have hcz11_1 : wc.cell? ⟨gb1123, 1, none⟩ = some (.int .i64 0) := (kc_' BK1123.out 1).trans rfl
    have hfz11_0 := kf_' BK1123.out 0
    have hfz11_1 := kf_' BK1123.out 1
    go_wp2
    refine bodyPost_ret (results_ct rfl _ _ gb1123 134 #[.int .i64 0, .int .i64 0] (0, 0) _ rfl (by (with_reducible repeat (first | refine kn_' ?_ _ | refine kd_' ?_ | refine ka_' ?_ _)); refine blk_put (cs := #[.int .i64 0, .int .i64 0]) ?_ 1 _ rfl; (with_reducible repeat (first | refine kn_' ?_ _ | refine kd_' ?_ | refine ka_' ?_ _)); refine blk_put (cs := #[.int .i64 0, .int .i64 0]) ?_ 0 _ rfl; (with_reducible repeat (first | refine kn_' ?_ _ | refine kd_' ?_ | refine ka_' ?_ _)); exact BK1123.out) Try.underlying134 rfl (by kernel_rfl)) rfl ?_
    exact ⟨by first | rfl | (simp [errW_none, errW_some] <;> rfl) | (simp [*, errW_none, errW_some] <;> rfl), by repeat (first | (with_reducible first | exact HB.out | apply pa_' | apply pn_' | apply pd_' | refine pt_' ?_ GE1123.out) | exact HB.out)⟩
   replace c10 := Bool.eq_false_iff.mpr c10
   subst c10
   rw [if_neg (show ¬ (false = true) by decide)] at H
   have H' := sk_' H
   clear H
   go_wp2_with (first | ((with_reducible refine gate_dst (N := 6) rfl ?_); refine box_event ?hg (N := 6) ?hd (cs := #[.int .i64 0, .int .i64 0]) (t := 134) ?hr ?_; (case hd => rfl); (case hg => rfl); (case hr => first | (go_simp; done) | (go_simp; rfl)); intro gb1126 hg w12 hbox hb; have n0_ := sk_' (blk_below (g := gb1123) (o := .cells #[.int .i64 0, .int .i64 0] 134 (0, 0)) (km BK1123) hb); have n1_ := sk_' (pp_' (bm HB) hb); have n2_ := sk_' (hbox); have n3_ := sk_' ((by rw [hg]; exact (ps_' (bm HB)) : w.heap.size ≤ gb1126)); have n4_ := sk_' ((by rw [hg]; exact (ps_' (bm HB)) : w.heap.size ≤ gb1126)); have n5_ := sk_' ((by rw [hg]; exact Nat.ne_of_lt (blk_lt (g := gb1123) (o := .cells #[.int .i64 0, .int .i64 0] 134 (0, 0)) (km BK1123)) : gb1123 ≠ gb1126)); have n6_ := sk_' ((by rw [hg]; exact Nat.ne_of_gt (blk_lt (g := gb1123) (o := .cells #[.int .i64 0, .int .i64 0] 134 (0, 0)) (km BK1123)) : gb1126 ≠ gb1123)); clear BK1123; clear HB; have BK1123 := n0_; have HB := n1_; have BK1126 := n2_; have GW1126 := n3_; have GE1126 := n4_; have NB1123_1126 := n5_; have NB1126_1123 := n6_; clear n0_ n1_ n2_ n3_ n4_ n5_ n6_; clear hb hbox hg; have hnb13 := NB1126_1123.out; have hnc13 := NB1123_1126.out; have hcz14_0 : w12.cell? ⟨gb1126, 0, none⟩ = some (.int .i64 0) := (kc_' BK1126.out 0).trans rfl; have hcz14_1 : w12.cell? ⟨gb1126, 1, none⟩ = some (.int .i64 0) := (kc_' BK1126.out 1).trans rfl; have hfz14_0 := kf_' BK1126.out 0; have hfz14_1 := kf_' BK1126.out 1))
   go_loopg [26] kj2 (fun kq v26 w' => ∃ (x26_2 : Int) (x1124000_2 : Int) (x1124001_2 : Int) (x1127000_2 : Int) (x1127001_2 : Int), v26 = .int .i64 x26_2 ∧ Aside0 (impl_TimeOf.l0 kq l0 a1 l0 (l0.length : Int) x26_2 x1127000_2 x1127001_2 = some (r1, r2, r3)) ∧ Aside0 (kq ≤ kj2) ∧ Aside0 (w'.heap[gb1123]? = some (.cells #[.int .i64 x1124000_2, .int .i64 x1124001_2] 134 (0, 0))) ∧ Aside0 (w'.heap[gb1126]? = some (.cells #[.int .i64 x1127000_2, .int .i64 x1127001_2] 134 (0, 0))) ∧ Aside0 (Below w.heap.size w w'))
   case atStart => exact ⟨(0), (0), (0), (0), (1), (by first | rfl | (simp; done) | (simp [*]; done)), H', ⟨Nat.le_refl _⟩, ⟨by (with_reducible repeat (first | refine kn_' ?_ _ | refine kd_' ?_ | refine ka_' ?_ _)); refine blk_far ?_ NB1123_1126.out _; (with_reducible repeat (first | refine kn_' ?_ _ | refine kd_' ?_ | refine ka_' ?_ _)); refine blk_far ?_ NB1123_1126.out _; (with_reducible repeat (first | refine kn_' ?_ _ | refine kd_' ?_ | refine ka_' ?_ _)); exact BK1123.out⟩, ⟨by (with_reducible repeat (first | refine kn_' ?_ _ | refine kd_' ?_ | refine ka_' ?_ _)); refine blk_put (cs := #[.int .i64 0, .int .i64 0]) ?_ 1 _ rfl; (with_reducible repeat (first | refine kn_' ?_ _ | refine kd_' ?_ | refine ka_' ?_ _)); refine blk_put (cs := #[.int .i64 0, .int .i64 0]) ?_ 0 _ rfl; (with_reducible repeat (first | refine kn_' ?_ _ | refine kd_' ?_ | refine ka_' ?_ _)); exact BK1126.out⟩, ⟨by repeat (first | (with_reducible first | exact HB.out | apply pa_' | apply pn_' | apply pd_' | refine pt_' ?_ GE1123.out | refine pt_' ?_ GE1126.out) | exact HB.out)⟩⟩
   case round =>
    clear H'
    try clear c1
    try clear p2
    try clear c6
    try clear c10
    try clear c11
    try clear c13
    try clear hcz11_0
    try clear hcz11_1
    try clear hcz14_0
    try clear hcz14_1
    try clear hfz11_0
    try clear hfz11_1
    try clear hfz14_0
    try clear hfz14_1
    try clear p2
    obtain ⟨x26_2, x1124000_2, x1124001_2, x1127000_2, x1127001_2, rfl, HA, HK2, BK1123, BK1126, HB⟩ := hrel
    cases gk with
    | zero => exact absurd HA.out (by simp [impl_TimeOf.l0])
    | succ k2 =>
     have H := HA.out
     clear HA
     simp only [impl_TimeOf.l0] at H
     by_cases c15 : x26_2 < (l0.length : Int)
     ·
      rw [if_pos c15] at H
      have c15b0 : decide (x26_2 < (l0.length : Int)) = true := decide_eq_true c15
      clear c15
      by_cases c16 : 0 ≤ x26_2
      ·
       rw [if_pos c16] at H
       have c16b0 : decide (0 ≤ x26_2) = true := decide_eq_true c16
       clear c16
       by_cases c17 : x26_2 < (l0.length : Int)
       ·
        rw [if_pos c17] at H
        have c17b0 : decide (x26_2 < (l0.length : Int)) = true := decide_eq_true c17
        clear c17
        have HC18 := sk_' H
        clear H
        have p1127 : 0 ≤ (x26_2 : Int) := od_' (by first | (with_reducible assumption) | assumption)
        have q1127 : x26_2 < (l0.length : Int) := od_' (by first | (with_reducible assumption) | assumption)
        obtain ⟨ad1127, e1127, hx1127_0, hx1127_1⟩ := at_T140 HR0.out x26_2 p1127 q1127
        cases e1127
        replace hx1127_0 := (HB.out.cell (bq_' w _ hx1127_0)).trans hx1127_0
        replace hx1127_1 := (HB.out.cell (bq_' w _ hx1127_1)).trans hx1127_1
        replace p1127 := eq_true p1127
        replace q1127 := eq_true q1127
        go_upto_if 36 with (first | ((with_reducible refine gate_dst (N := 8) rfl ?_); refine box_event ?hg (N := 8) ?hd (cs := #[.int .i64 0, .int .i64 0]) (t := 140) ?hr ?_; (case hd => rfl); (case hg => rfl); (case hr => first | (go_simp; done) | (go_simp; rfl)); intro gb1128 hg w19 hbox hb; have n0_ := sk_' (blk_below (g := gb1123) (o := .cells #[.int .i64 x1124000_2, .int .i64 x1124001_2] 134 (0, 0)) (km BK1123) hb); have n1_ := sk_' (blk_below (g := gb1126) (o := .cells #[.int .i64 x1127000_2, .int .i64 x1127001_2] 134 (0, 0)) (km BK1126) hb); have n2_ := sk_' (pp_' (bm HB) hb); have n3_ := sk_' (hbox); have n4_ := sk_' ((by rw [hg]; exact (ps_' (bm HB)) : w.heap.size ≤ gb1128)); have n5_ := sk_' ((by rw [hg]; exact (ps_' (bm HB)) : w.heap.size ≤ gb1128)); have n6_ := sk_' ((by rw [hg]; exact Nat.ne_of_lt (blk_lt (g := gb1123) (o := .cells #[.int .i64 x1124000_2, .int .i64 x1124001_2] 134 (0, 0)) (km BK1123)) : gb1123 ≠ gb1128)); have n7_ := sk_' ((by rw [hg]; exact Nat.ne_of_gt (blk_lt (g := gb1123) (o := .cells #[.int .i64 x1124000_2, .int .i64 x1124001_2] 134 (0, 0)) (km BK1123)) : gb1128 ≠ gb1123)); have n8_ := sk_' ((by rw [hg]; exact Nat.ne_of_lt (blk_lt (g := gb1126) (o := .cells #[.int .i64 x1127000_2, .int .i64 x1127001_2] 134 (0, 0)) (km BK1126)) : gb1126 ≠ gb1128)); have n9_ := sk_' ((by rw [hg]; exact Nat.ne_of_gt (blk_lt (g := gb1126) (o := .cells #[.int .i64 x1127000_2, .int .i64 x1127001_2] 134 (0, 0)) (km BK1126)) : gb1128 ≠ gb1126)); clear BK1123; clear BK1126; clear HB; have BK1123 := n0_; have BK1126 := n1_; have HB := n2_; have BK1128 := n3_; have GW1128 := n4_; have GE1128 := n5_; have NB1123_1128 := n6_; have NB1128_1123 := n7_; have NB1126_1128 := n8_; have NB1128_1126 := n9_; clear n0_ n1_ n2_ n3_ n4_ n5_ n6_ n7_ n8_ n9_; clear hb hbox hg; have hnb20 := NB1128_1123.out; have hnc20 := NB1123_1128.out; have hnb21 := NB1128_1126.out; have hnc21 := NB1126_1128.out; have hcz22_0 : w19.cell? ⟨gb1128, 0, none⟩ = some (.int .i64 0) := (kc_' BK1128.out 0).trans rfl; have hcz22_1 : w19.cell? ⟨gb1128, 1, none⟩ = some (.int .i64 0) := (kc_' BK1128.out 1).trans rfl; have hfz22_0 := kf_' BK1128.out 0; have hfz22_1 := kf_' BK1128.out 1))
        (try simp only [Act.put, sa_', sz_', sc_'])
        go_cut [9] (fun v9 wc => ∃ (kq : Nat) (x9_17 : Int), v9 = .int .i64 x9_17 ∧ Aside0 (impl_TimeOf.j2 kq l0 a1 x9_17 l0 (l0.length : Int) x26_2 x1127000_2 x1127001_2 ((rd_T140 l0 x26_2).f0) ((rd_T140 l0 x26_2).f1) = some (r1, r2, r3)) ∧ Aside0 (kq ≤ k2) ∧ Aside0 (wc.heap[gb1123]? = some (.cells #[.int .i64 x1124000_2, .int .i64 x1124001_2] 134 (0, 0))) ∧ Aside0 (wc.heap[gb1126]? = some (.cells #[.int .i64 x1127000_2, .int .i64 x1127001_2] 134 (0, 0))) ∧ Aside0 (wc.heap[gb1128]? = some (.cells #[.int .i64 ((rd_T140 l0 x26_2).f0), .int .i64 ((rd_T140 l0 x26_2).f1)] 140 (0, 0))) ∧ Aside0 (Below w.heap.size w wc))
        case first =>
         have H := HC18.out
         clear HC18
         by_cases c23 : (wrap64 (x26_2 + 1)) < (l0.length : Int)
         ·
          rw [if_pos c23] at H
          have c23b0 : decide ((wrap64 (x26_2 + 1)) < (l0.length : Int)) = true := decide_eq_true c23
          clear c23
          (first | rw [c23b0] | (simp only [i64_w, i32_w]; rw [c23b0]) | skip)
          obtain ⟨ji24, hji24⟩ : ∃ j_ : Int, (wrap64 (x26_2 + 1)) = j_ := ⟨_, rfl⟩
          replace H : (if 0 ≤ (ji24) then (impl_TimeOf.j2 k2 l0 a1 (mn a1 ((rd_T140 l0 (ji24)).f0)) l0 (l0.length : Int) x26_2 x1127000_2 x1127001_2 ((rd_T140 l0 x26_2).f0) ((rd_T140 l0 x26_2).f1)) else (none)) = some (r1, r2, r3) := by first | (rw [hji24] at H; exact H) | (simp only [hji24] at H ⊢; exact H)
          (try rw [hji24] at c23b0)
          have hji24w : (IntKind.i64.wrap (x26_2 + 1)) = ji24 := (i64_w _).trans hji24
          by_cases c25 : 0 ≤ (ji24)
          ·
           rw [if_pos c25] at H
           have c25b0 : decide (0 ≤ (ji24)) = true := decide_eq_true c25
           clear c25
           obtain ⟨ji26, hji26⟩ : ∃ j_ : Int, (mn a1 ((rd_T140 l0 (ji24)).f0)) = j_ := ⟨_, rfl⟩
           replace H : (impl_TimeOf.j2 k2 l0 a1 ji26 l0 (l0.length : Int) x26_2 x1127000_2 x1127001_2 ((rd_T140 l0 x26_2).f0) ((rd_T140 l0 x26_2).f1)) = some (r1, r2, r3) := by first | (rw [hji26] at H; exact H) | (simp only [hji26] at H ⊢; exact H)
           have hji26_ : (if ((rd_T140 l0 (ji24)).f0) < a1 then ((rd_T140 l0 (ji24)).f0) else a1) = ji26 := hji26
           have H' := sk_' H
           clear H
           have p1129 : 0 ≤ ((ji24) : Int) := od_' (by first | (with_reducible assumption) | assumption)
           have q1129 : (ji24) < (l0.length : Int) := od_' (by first | (with_reducible assumption) | assumption)
           obtain ⟨ad1129, e1129, hx1129_0, hx1129_1⟩ := at_T140 HR0.out (ji24) p1129 q1129
           obtain rfl : ad1127 = ad1129 := (by injection e1129)
           have hn1129_0 : ad1127.block ≠ gb1128 := Nat.ne_of_lt (Nat.lt_of_lt_of_le (by have := bq_' _ _ hx1129_0; first | rwa [add_block] at this | exact this) GW1128.out)
           have hn1129_1 : ad1127.block ≠ gb1128 := Nat.ne_of_lt (Nat.lt_of_lt_of_le (by have := bq_' _ _ hx1129_0; first | rwa [add_block] at this | exact this) GW1128.out)
           replace hx1129_0 := (HB.out.cell (bq_' w _ hx1129_0)).trans hx1129_0
           replace hx1129_1 := (HB.out.cell (bq_' w _ hx1129_1)).trans hx1129_1
           replace hx1129_0 := (cell_far (p := ⟨gb1128, 0, none⟩) (by first | (rw [add_block]; exact hn1129_0) | (show (Addr.add _ _).block ≠ _; rw [add_block]; exact hn1129_0) | exact hn1129_0) (.int .i64 ((rd_T140 l0 x26_2).f0))).trans hx1129_0
           replace hx1129_1 := (cell_far (p := ⟨gb1128, 0, none⟩) (by first | (rw [add_block]; exact hn1129_0) | (show (Addr.add _ _).block ≠ _; rw [add_block]; exact hn1129_0) | exact hn1129_0) (.int .i64 ((rd_T140 l0 x26_2).f0))).trans hx1129_1
           replace hx1129_0 := (cell_far (p := ⟨gb1128, 1, none⟩) (by first | (rw [add_block]; exact hn1129_1) | (show (Addr.add _ _).block ≠ _; rw [add_block]; exact hn1129_1) | exact hn1129_1) (.int .i64 ((rd_T140 l0 x26_2).f1))).trans hx1129_0
           replace hx1129_1 := (cell_far (p := ⟨gb1128, 1, none⟩) (by first | (rw [add_block]; exact hn1129_1) | (show (Addr.add _ _).block ≠ _; rw [add_block]; exact hn1129_1) | exact hn1129_1) (.int .i64 ((rd_T140 l0 x26_2).f1))).trans hx1129_1
           clear hn1129_0
           clear hn1129_1
           replace p1129 := eq_true p1129
           replace q1129 := eq_true q1129
           go_wp2
           go_meet
           case rel => exact ⟨_, (ji26), (by first | rfl | (simp; done) | (simp only [← hji26] <;> (first | rfl | simp)) | (simp [*]; done)), H', ⟨by have := HJ2.out; have := HK2.out; first | omega | exact Nat.le_refl _⟩, ⟨by (with_reducible repeat (first | refine kn_' ?_ _ | refine kd_' ?_ | refine ka_' ?_ _)); refine blk_far ?_ NB1123_1128.out _; (with_reducible repeat (first | refine kn_' ?_ _ | refine kd_' ?_ | refine ka_' ?_ _)); refine blk_far ?_ NB1123_1128.out _; (with_reducible repeat (first | refine kn_' ?_ _ | refine kd_' ?_ | refine ka_' ?_ _)); exact BK1123.out⟩, ⟨by (with_reducible repeat (first | refine kn_' ?_ _ | refine kd_' ?_ | refine ka_' ?_ _)); refine blk_far ?_ NB1126_1128.out _; (with_reducible repeat (first | refine kn_' ?_ _ | refine kd_' ?_ | refine ka_' ?_ _)); refine blk_far ?_ NB1126_1128.out _; (with_reducible repeat (first | refine kn_' ?_ _ | refine kd_' ?_ | refine ka_' ?_ _)); exact BK1126.out⟩, ⟨by (with_reducible repeat (first | refine kn_' ?_ _ | refine kd_' ?_ | refine ka_' ?_ _)); refine blk_put (cs := #[.int .i64 ((rd_T140 l0 x26_2).f0), .int .i64 0]) ?_ 1 _ rfl; (with_reducible repeat (first | refine kn_' ?_ _ | refine kd_' ?_ | refine ka_' ?_ _)); refine blk_put (cs := #[.int .i64 0, .int .i64 0]) ?_ 0 _ rfl; (with_reducible repeat (first | refine kn_' ?_ _ | refine kd_' ?_ | refine ka_' ?_ _)); exact BK1128.out⟩, ⟨by repeat (first | (with_reducible first | exact HB.out | apply pa_' | apply pn_' | apply pd_' | refine pt_' ?_ GE1123.out | refine pt_' ?_ GE1126.out | refine pt_' ?_ GE1128.out) | exact HB.out)⟩⟩
          rw [if_neg c25] at H
          exact absurd H (by simp)
         rw [if_neg c23] at H
         have c23b0 : decide ((wrap64 (x26_2 + 1)) < (l0.length : Int)) = false := decide_eq_false c23
         clear c23
         (first | rw [c23b0] | (simp only [i64_w, i32_w]; rw [c23b0]) | skip)
         have H' := sk_' H
         clear H
         go_wp2
         go_meet
         case rel => exact ⟨_, (a1), (by first | rfl | (simp; done) | (simp [*]; done)), H', ⟨by have := HJ2.out; have := HK2.out; first | omega | exact Nat.le_refl _⟩, ⟨by (with_reducible repeat (first | refine kn_' ?_ _ | refine kd_' ?_ | refine ka_' ?_ _)); refine blk_far ?_ NB1123_1128.out _; (with_reducible repeat (first | refine kn_' ?_ _ | refine kd_' ?_ | refine ka_' ?_ _)); refine blk_far ?_ NB1123_1128.out _; (with_reducible repeat (first | refine kn_' ?_ _ | refine kd_' ?_ | refine ka_' ?_ _)); exact BK1123.out⟩, ⟨by (with_reducible repeat (first | refine kn_' ?_ _ | refine kd_' ?_ | refine ka_' ?_ _)); refine blk_far ?_ NB1126_1128.out _; (with_reducible repeat (first | refine kn_' ?_ _ | refine kd_' ?_ | refine ka_' ?_ _)); refine blk_far ?_ NB1126_1128.out _; (with_reducible repeat (first | refine kn_' ?_ _ | refine kd_' ?_ | refine ka_' ?_ _)); exact BK1126.out⟩, ⟨by (with_reducible repeat (first | refine kn_' ?_ _ | refine kd_' ?_ | refine ka_' ?_ _)); refine blk_put (cs := #[.int .i64 ((rd_T140 l0 x26_2).f0), .int .i64 0]) ?_ 1 _ rfl; (with_reducible repeat (first | refine kn_' ?_ _ | refine kd_' ?_ | refine ka_' ?_ _)); refine blk_put (cs := #[.int .i64 0, .int .i64 0]) ?_ 0 _ rfl; (with_reducible repeat (first | refine kn_' ?_ _ | refine kd_' ?_ | refine ka_' ?_ _)); exact BK1128.out⟩, ⟨by repeat (first | (with_reducible first | exact HB.out | apply pa_' | apply pn_' | apply pd_' | refine pt_' ?_ GE1123.out | refine pt_' ?_ GE1126.out | refine pt_' ?_ GE1128.out) | exact HB.out)⟩⟩
        case rest =>
         clear HC18
         try clear c1
         try clear p1
         try clear q1
         try clear hx1
         try clear c2
         try clear p2
         try clear c6
         try clear p6
         try clear c10
         try clear c11
         try clear p11
         try clear q11
         try clear hx11
         try clear c13
         try clear c15
         try clear c15b0
         try clear c16
         try clear c16b0
         try clear c17
         try clear c17b0
         try clear c20
         try clear c21
         try clear c23
         try clear c23b0
         try clear c25
         try clear c25b0
         try clear hcz11_0
         try clear hcz11_1
         try clear hcz14_0
         try clear hcz14_1
         try clear hcz22_0
         try clear hcz22_1
         try clear hfz11_0
         try clear hfz11_1
         try clear hfz14_0
         try clear hfz14_1
         try clear hfz22_0
         try clear hfz22_1
         try clear hx1127_0
         try clear hx1127_1
         try clear hx1129_0
         try clear hx1129_1
         try clear p1127
         try clear p1129
         try clear p2
         try clear q1127
         try clear q1129
         obtain ⟨kq, x9_17, rfl, HA, HJ17, BK1123, BK1126, BK1128, HB⟩ := hcut
         cases kq with
         | zero => exact absurd HA.out (by simp [impl_TimeOf.j2])
         | succ kj17 =>
          have H := HA.out
          clear HA
          simp only [impl_TimeOf.j2] at H
          by_cases c27 : x9_17 ≤ ((rd_T140 l0 x26_2).f0)
          ·
           rw [if_pos c27] at H
           have c27b0 : decide (x9_17 ≤ ((rd_T140 l0 x26_2).f0)) = true := decide_eq_true c27
           clear c27
           simp only [Option.some.injEq, Prod.mk.injEq] at H
           obtain ⟨rfl, rfl, rfl⟩ := H
           have hnb28 := NB1128_1123.out
           have hnc28 := NB1123_1128.out
           have hnb29 := NB1128_1126.out
           have hnc29 := NB1126_1128.out
           have hcz30_0 : wc.cell? ⟨gb1128, 0, none⟩ = some (.int .i64 ((rd_T140 l0 x26_2).f0)) := (kc_' BK1128.out 0).trans rfl
           have hcz30_1 : wc.cell? ⟨gb1128, 1, none⟩ = some (.int .i64 ((rd_T140 l0 x26_2).f1)) := (kc_' BK1128.out 1).trans rfl
           have hfz30_0 := kf_' BK1128.out 0
           have hfz30_1 := kf_' BK1128.out 1
           have hnb31 := NB1126_1123.out
           have hnc31 := NB1123_1126.out
           have hcz32_0 : wc.cell? ⟨gb1126, 0, none⟩ = some (.int .i64 x1127000_2) := (kc_' BK1126.out 0).trans rfl
           have hcz32_1 : wc.cell? ⟨gb1126, 1, none⟩ = some (.int .i64 x1127001_2) := (kc_' BK1126.out 1).trans rfl
           have hfz32_0 := kf_' BK1126.out 0
           have hfz32_1 := kf_' BK1126.out 1
           have hcz33_0 : wc.cell? ⟨gb1123, 0, none⟩ = some (.int .i64 x1124000_2) := (kc_' BK1123.out 0).trans rfl
           have hcz33_1 : wc.cell? ⟨gb1123, 1, none⟩ = some (.int .i64 x1124001_2) := (kc_' BK1123.out 1).trans rfl
           have hfz33_0 := kf_' BK1123.out 0
           have hfz33_1 := kf_' BK1123.out 1
           go_wp2
           refine bodyPost_ret (results_ct rfl _ _ gb1123 134 #[.int .i64 x1127000_2, .int .i64 x1127001_2] (0, 0) _ rfl (by (with_reducible repeat (first | refine kn_' ?_ _ | refine kd_' ?_ | refine ka_' ?_ _)); refine blk_put (cs := #[.int .i64 x1127000_2, .int .i64 x1124001_2]) ?_ 1 _ rfl; (with_reducible repeat (first | refine kn_' ?_ _ | refine kd_' ?_ | refine ka_' ?_ _)); refine blk_put (cs := #[.int .i64 x1124000_2, .int .i64 x1124001_2]) ?_ 0 _ rfl; (with_reducible repeat (first | refine kn_' ?_ _ | refine kd_' ?_ | refine ka_' ?_ _)); exact BK1123.out) Try.underlying134 rfl (by kernel_rfl)) rfl ?_
           exact ⟨by first | rfl | (simp [errW_none, errW_some] <;> rfl) | (simp [*, errW_none, errW_some] <;> rfl), by repeat (first | (with_reducible first | exact HB.out | apply pa_' | apply pn_' | apply pd_' | refine pt_' ?_ GE1123.out | refine pt_' ?_ GE1126.out | refine pt_' ?_ GE1128.out) | exact HB.out)⟩
          rw [if_neg c27] at H
          have c27b0 : decide (x9_17 ≤ ((rd_T140 l0 x26_2).f0)) = false := decide_eq_false c27
          clear c27
          replace H := bs_' H
          obtain ⟨⟨t1130, t1131, t1132⟩, A340, H⟩ := H
          try dsimp only at H
          have A34 := sk_' A340
          clear A340
          replace H := bs_' H
          obtain ⟨⟨t1134, t1135, t1136⟩, A350, H⟩ := H
          try dsimp only at H
          have A35 := sk_' A350
          clear A350
          by_cases c36 : t1132 = true
          ·
           subst c36
           rw [if_pos rfl] at H
           by_cases c37 : t1136 = true
           ·
            subst c37
            rw [if_pos rfl] at H
            have H' := sk_' H
            clear H
            have hnb38 := NB1128_1123.out
            have hnc38 := NB1123_1128.out
            have hnb39 := NB1128_1126.out
            have hnc39 := NB1126_1128.out
            have hcz40_0 : wc.cell? ⟨gb1128, 0, none⟩ = some (.int .i64 ((rd_T140 l0 x26_2).f0)) := (kc_' BK1128.out 0).trans rfl
            have hcz40_1 : wc.cell? ⟨gb1128, 1, none⟩ = some (.int .i64 ((rd_T140 l0 x26_2).f1)) := (kc_' BK1128.out 1).trans rfl
            have hfz40_0 := kf_' BK1128.out 0
            have hfz40_1 := kf_' BK1128.out 1
            go_wp2_with (first | ((with_reducible refine xj_' (f := 152) rfl ?_); refine goesL_ (some 57) rfl rfl Try.func152 (by kernel_rfl) rfl #[.int .i64 (wrap64 ((wrap64 (x9_17 - ((rd_T140 l0 x26_2).f0))) * 5000)), .int .i64 ((rd_T140 l0 x26_2).f1)] rfl (by (try simp only [xm_', xc_', xn_']); first | done | rfl | (simp only [xd_', xt_']; rfl)) ?_; (with_reducible refine (impl_MakeRatio.calls kj17 (wrap64 ((wrap64 (x9_17 - ((rd_T140 l0 x26_2).f0))) * 5000)) ((rd_T140 l0 x26_2).f1) t1130 t1131 true _ A34.out).mono ?_); rintro e w41 ⟨rfl, hb⟩; refine ⟨_, rfl, ?_⟩; have n0_ := sk_' (blk_below (g := gb1123) (o := .cells #[.int .i64 x1124000_2, .int .i64 x1124001_2] 134 (0, 0)) (by (with_reducible repeat (first | refine kn_' ?_ _ | refine kd_' ?_ | refine ka_' ?_ _)); exact BK1123.out) hb); have n1_ := sk_' (blk_below (g := gb1126) (o := .cells #[.int .i64 x1127000_2, .int .i64 x1127001_2] 134 (0, 0)) (by (with_reducible repeat (first | refine kn_' ?_ _ | refine kd_' ?_ | refine ka_' ?_ _)); exact BK1126.out) hb); have n2_ := sk_' (blk_below (g := gb1128) (o := .cells #[.int .i64 ((rd_T140 l0 x26_2).f0), .int .i64 ((rd_T140 l0 x26_2).f1)] 140 (0, 0)) (by (with_reducible repeat (first | refine kn_' ?_ _ | refine kd_' ?_ | refine ka_' ?_ _)); exact BK1128.out) hb); have n3_ := sk_' (pp_' (by repeat (first | (with_reducible first | exact HB.out | apply pa_' | apply pn_' | apply pd_' | refine pt_' ?_ GE1123.out | refine pt_' ?_ GE1126.out | refine pt_' ?_ GE1128.out) | exact HB.out)) hb); clear BK1123; clear BK1126; clear BK1128; clear HB; have BK1123 := n0_; have BK1126 := n1_; have BK1128 := n2_; have HB := n3_; clear n0_ n1_ n2_ n3_; (try clear hb); (try clear hb2); (try clear hk); (try clear hi)) | ((with_reducible refine gate_dst (N := 10) rfl ?_); refine box_event ?hg (N := 10) ?hd (cs := #[.int .i64 0, .int .i64 0]) (t := 134) ?hr ?_; (case hd => rfl); (case hg => rfl); (case hr => first | (go_simp; done) | (go_simp; rfl)); intro gb1133 hg w42 hbox hb; have n0_ := sk_' (blk_below (g := gb1123) (o := .cells #[.int .i64 x1124000_2, .int .i64 x1124001_2] 134 (0, 0)) (by (with_reducible repeat (first | refine kn_' ?_ _ | refine kd_' ?_ | refine ka_' ?_ _)); exact BK1123.out) hb); have n1_ := sk_' (blk_below (g := gb1126) (o := .cells #[.int .i64 x1127000_2, .int .i64 x1127001_2] 134 (0, 0)) (by (with_reducible repeat (first | refine kn_' ?_ _ | refine kd_' ?_ | refine ka_' ?_ _)); exact BK1126.out) hb); have n2_ := sk_' (blk_below (g := gb1128) (o := .cells #[.int .i64 ((rd_T140 l0 x26_2).f0), .int .i64 ((rd_T140 l0 x26_2).f1)] 140 (0, 0)) (by (with_reducible repeat (first | refine kn_' ?_ _ | refine kd_' ?_ | refine ka_' ?_ _)); exact BK1128.out) hb); have n3_ := sk_' (pp_' (by repeat (first | (with_reducible first | exact HB.out | apply pa_' | apply pn_' | apply pd_' | refine pt_' ?_ GE1123.out | refine pt_' ?_ GE1126.out | refine pt_' ?_ GE1128.out) | exact HB.out)) hb); have n4_ := sk_' (hbox); have n5_ := sk_' ((by rw [hg]; exact (ps_' (by repeat (first | (with_reducible first | exact HB.out | apply pa_' | apply pn_' | apply pd_' | refine pt_' ?_ GE1123.out | refine pt_' ?_ GE1126.out | refine pt_' ?_ GE1128.out) | exact HB.out))) : w.heap.size ≤ gb1133)); have n6_ := sk_' ((by rw [hg]; exact (ps_' (by repeat (first | (with_reducible first | exact HB.out | apply pa_' | apply pn_' | apply pd_' | refine pt_' ?_ GE1123.out | refine pt_' ?_ GE1126.out | refine pt_' ?_ GE1128.out) | exact HB.out))) : w.heap.size ≤ gb1133)); have n7_ := sk_' ((by rw [hg]; exact Nat.ne_of_lt (blk_lt (g := gb1123) (o := .cells #[.int .i64 x1124000_2, .int .i64 x1124001_2] 134 (0, 0)) (by (with_reducible repeat (first | refine kn_' ?_ _ | refine kd_' ?_ | refine ka_' ?_ _)); exact BK1123.out)) : gb1123 ≠ gb1133)); have n8_ := sk_' ((by rw [hg]; exact Nat.ne_of_gt (blk_lt (g := gb1123) (o := .cells #[.int .i64 x1124000_2, .int .i64 x1124001_2] 134 (0, 0)) (by (with_reducible repeat (first | refine kn_' ?_ _ | refine kd_' ?_ | refine ka_' ?_ _)); exact BK1123.out)) : gb1133 ≠ gb1123)); have n9_ := sk_' ((by rw [hg]; exact Nat.ne_of_lt (blk_lt (g := gb1126) (o := .cells #[.int .i64 x1127000_2, .int .i64 x1127001_2] 134 (0, 0)) (by (with_reducible repeat (first | refine kn_' ?_ _ | refine kd_' ?_ | refine ka_' ?_ _)); exact BK1126.out)) : gb1126 ≠ gb1133)); have n10_ := sk_' ((by rw [hg]; exact Nat.ne_of_gt (blk_lt (g := gb1126) (o := .cells #[.int .i64 x1127000_2, .int .i64 x1127001_2] 134 (0, 0)) (by (with_reducible repeat (first | refine kn_' ?_ _ | refine kd_' ?_ | refine ka_' ?_ _)); exact BK1126.out)) : gb1133 ≠ gb1126)); have n11_ := sk_' ((by rw [hg]; exact Nat.ne_of_lt (blk_lt (g := gb1128) (o := .cells #[.int .i64 ((rd_T140 l0 x26_2).f0), .int .i64 ((rd_T140 l0 x26_2).f1)] 140 (0, 0)) (by (with_reducible repeat (first | refine kn_' ?_ _ | refine kd_' ?_ | refine ka_' ?_ _)); exact BK1128.out)) : gb1128 ≠ gb1133)); have n12_ := sk_' ((by rw [hg]; exact Nat.ne_of_gt (blk_lt (g := gb1128) (o := .cells #[.int .i64 ((rd_T140 l0 x26_2).f0), .int .i64 ((rd_T140 l0 x26_2).f1)] 140 (0, 0)) (by (with_reducible repeat (first | refine kn_' ?_ _ | refine kd_' ?_ | refine ka_' ?_ _)); exact BK1128.out)) : gb1133 ≠ gb1128)); clear BK1123; clear BK1126; clear BK1128; clear HB; have BK1123 := n0_; have BK1126 := n1_; have BK1128 := n2_; have HB := n3_; have BK1133 := n4_; have GW1133 := n5_; have GE1133 := n6_; have NB1123_1133 := n7_; have NB1133_1123 := n8_; have NB1126_1133 := n9_; have NB1133_1126 := n10_; have NB1128_1133 := n11_; have NB1133_1128 := n12_; clear n0_ n1_ n2_ n3_ n4_ n5_ n6_ n7_ n8_ n9_ n10_ n11_ n12_; clear hb hbox hg; have hnb43 := NB1133_1123.out; have hnc43 := NB1123_1133.out; have hnb44 := NB1133_1126.out; have hnc44 := NB1126_1133.out; have hnb45 := NB1133_1128.out; have hnc45 := NB1128_1133.out; have hcz46_0 : w42.cell? ⟨gb1133, 0, none⟩ = some (.int .i64 0) := (kc_' BK1133.out 0).trans rfl; have hcz46_1 : w42.cell? ⟨gb1133, 1, none⟩ = some (.int .i64 0) := (kc_' BK1133.out 1).trans rfl; have hfz46_0 := kf_' BK1133.out 0; have hfz46_1 := kf_' BK1133.out 1; have hnb47 := NB1126_1123.out; have hnc47 := NB1123_1126.out; have hcz48_0 : w42.cell? ⟨gb1126, 0, none⟩ = some (.int .i64 x1127000_2) := (kc_' BK1126.out 0).trans rfl; have hcz48_1 : w42.cell? ⟨gb1126, 1, none⟩ = some (.int .i64 x1127001_2) := (kc_' BK1126.out 1).trans rfl; have hfz48_0 := kf_' BK1126.out 0; have hfz48_1 := kf_' BK1126.out 1) | ((with_reducible refine xj_' (f := 153) rfl ?_); refine goesL_ (some 63) rfl rfl Try.func153 (by kernel_rfl) rfl #[.agg #[.int .i64 x1127000_2, .int .i64 x1127001_2], .agg #[.int .i64 t1130, .int .i64 t1131]] rfl (by (try simp only [xm_', xc_', xn_']); first | done | rfl | (simp only [xd_', xt_']; rfl)) ?_; (with_reducible refine (impl_AddRatio.calls kj17 x1127000_2 x1127001_2 t1130 t1131 t1134 t1135 true _ A35.out).mono ?_); rintro e w49 ⟨rfl, hb⟩; refine ⟨_, rfl, ?_⟩; have n0_ := sk_' (blk_below (g := gb1123) (o := .cells #[.int .i64 x1124000_2, .int .i64 x1124001_2] 134 (0, 0)) (by (with_reducible repeat (first | refine kn_' ?_ _ | refine kd_' ?_ | refine ka_' ?_ _)); refine blk_far ?_ NB1123_1133.out _; (with_reducible repeat (first | refine kn_' ?_ _ | refine kd_' ?_ | refine ka_' ?_ _)); refine blk_far ?_ NB1123_1133.out _; (with_reducible repeat (first | refine kn_' ?_ _ | refine kd_' ?_ | refine ka_' ?_ _)); exact BK1123.out) hb); have n1_ := sk_' (blk_below (g := gb1126) (o := .cells #[.int .i64 x1127000_2, .int .i64 x1127001_2] 134 (0, 0)) (by (with_reducible repeat (first | refine kn_' ?_ _ | refine kd_' ?_ | refine ka_' ?_ _)); refine blk_far ?_ NB1126_1133.out _; (with_reducible repeat (first | refine kn_' ?_ _ | refine kd_' ?_ | refine ka_' ?_ _)); refine blk_far ?_ NB1126_1133.out _; (with_reducible repeat (first | refine kn_' ?_ _ | refine kd_' ?_ | refine ka_' ?_ _)); exact BK1126.out) hb); have n2_ := sk_' (blk_below (g := gb1128) (o := .cells #[.int .i64 ((rd_T140 l0 x26_2).f0), .int .i64 ((rd_T140 l0 x26_2).f1)] 140 (0, 0)) (by (with_reducible repeat (first | refine kn_' ?_ _ | refine kd_' ?_ | refine ka_' ?_ _)); refine blk_far ?_ NB1128_1133.out _; (with_reducible repeat (first | refine kn_' ?_ _ | refine kd_' ?_ | refine ka_' ?_ _)); refine blk_far ?_ NB1128_1133.out _; (with_reducible repeat (first | refine kn_' ?_ _ | refine kd_' ?_ | refine ka_' ?_ _)); exact BK1128.out) hb); have n3_ := sk_' (blk_below (g := gb1133) (o := .cells #[.int .i64 t1130, .int .i64 t1131] 134 (0, 0)) (by (with_reducible repeat (first | refine kn_' ?_ _ | refine kd_' ?_ | refine ka_' ?_ _)); refine blk_put (cs := #[.int .i64 t1130, .int .i64 0]) ?_ 1 _ rfl; (with_reducible repeat (first | refine kn_' ?_ _ | refine kd_' ?_ | refine ka_' ?_ _)); refine blk_put (cs := #[.int .i64 0, .int .i64 0]) ?_ 0 _ rfl; (with_reducible repeat (first | refine kn_' ?_ _ | refine kd_' ?_ | refine ka_' ?_ _)); exact BK1133.out) hb); have n4_ := sk_' (pp_' (by repeat (first | (with_reducible first | exact HB.out | apply pa_' | apply pn_' | apply pd_' | refine pt_' ?_ GE1123.out | refine pt_' ?_ GE1126.out | refine pt_' ?_ GE1128.out | refine pt_' ?_ GE1133.out) | exact HB.out)) hb); clear BK1123; clear BK1126; clear BK1128; clear BK1133; clear HB; have BK1123 := n0_; have BK1126 := n1_; have BK1128 := n2_; have BK1133 := n3_; have HB := n4_; clear n0_ n1_ n2_ n3_ n4_; (try clear hb); (try clear hb2); (try clear hk); (try clear hi)) | ((with_reducible refine gate_dst (N := 12) rfl ?_); refine box_event ?hg (N := 12) ?hd (cs := #[.int .i64 0, .int .i64 0]) (t := 134) ?hr ?_; (case hd => rfl); (case hg => rfl); (case hr => first | (go_simp; done) | (go_simp; rfl)); intro gb1137 hg w50 hbox hb; have n0_ := sk_' (blk_below (g := gb1123) (o := .cells #[.int .i64 x1124000_2, .int .i64 x1124001_2] 134 (0, 0)) (by (with_reducible repeat (first | refine kn_' ?_ _ | refine kd_' ?_ | refine ka_' ?_ _)); exact BK1123.out) hb); have n1_ := sk_' (blk_below (g := gb1126) (o := .cells #[.int .i64 x1127000_2, .int .i64 x1127001_2] 134 (0, 0)) (by (with_reducible repeat (first | refine kn_' ?_ _ | refine kd_' ?_ | refine ka_' ?_ _)); exact BK1126.out) hb); have n2_ := sk_' (blk_below (g := gb1128) (o := .cells #[.int .i64 ((rd_T140 l0 x26_2).f0), .int .i64 ((rd_T140 l0 x26_2).f1)] 140 (0, 0)) (by (with_reducible repeat (first | refine kn_' ?_ _ | refine kd_' ?_ | refine ka_' ?_ _)); exact BK1128.out) hb); have n3_ := sk_' (blk_below (g := gb1133) (o := .cells #[.int .i64 t1130, .int .i64 t1131] 134 (0, 0)) (by (with_reducible repeat (first | refine kn_' ?_ _ | refine kd_' ?_ | refine ka_' ?_ _)); exact BK1133.out) hb); have n4_ := sk_' (pp_' (by repeat (first | (with_reducible first | exact HB.out | apply pa_' | apply pn_' | apply pd_' | refine pt_' ?_ GE1123.out | refine pt_' ?_ GE1126.out | refine pt_' ?_ GE1128.out | refine pt_' ?_ GE1133.out) | exact HB.out)) hb); have n5_ := sk_' (hbox); have n6_ := sk_' ((by rw [hg]; exact (ps_' (by repeat (first | (with_reducible first | exact HB.out | apply pa_' | apply pn_' | apply pd_' | refine pt_' ?_ GE1123.out | refine pt_' ?_ GE1126.out | refine pt_' ?_ GE1128.out | refine pt_' ?_ GE1133.out) | exact HB.out))) : w.heap.size ≤ gb1137)); have n7_ := sk_' ((by rw [hg]; exact (ps_' (by repeat (first | (with_reducible first | exact HB.out | apply pa_' | apply pn_' | apply pd_' | refine pt_' ?_ GE1123.out | refine pt_' ?_ GE1126.out | refine pt_' ?_ GE1128.out | refine pt_' ?_ GE1133.out) | exact HB.out))) : w.heap.size ≤ gb1137)); have n8_ := sk_' ((by rw [hg]; exact Nat.ne_of_lt (blk_lt (g := gb1123) (o := .cells #[.int .i64 x1124000_2, .int .i64 x1124001_2] 134 (0, 0)) (by (with_reducible repeat (first | refine kn_' ?_ _ | refine kd_' ?_ | refine ka_' ?_ _)); exact BK1123.out)) : gb1123 ≠ gb1137)); have n9_ := sk_' ((by rw [hg]; exact Nat.ne_of_gt (blk_lt (g := gb1123) (o := .cells #[.int .i64 x1124000_2, .int .i64 x1124001_2] 134 (0, 0)) (by (with_reducible repeat (first | refine kn_' ?_ _ | refine kd_' ?_ | refine ka_' ?_ _)); exact BK1123.out)) : gb1137 ≠ gb1123)); have n10_ := sk_' ((by rw [hg]; exact Nat.ne_of_lt (blk_lt (g := gb1126) (o := .cells #[.int .i64 x1127000_2, .int .i64 x1127001_2] 134 (0, 0)) (by (with_reducible repeat (first | refine kn_' ?_ _ | refine kd_' ?_ | refine ka_' ?_ _)); exact BK1126.out)) : gb1126 ≠ gb1137)); have n11_ := sk_' ((by rw [hg]; exact Nat.ne_of_gt (blk_lt (g := gb1126) (o := .cells #[.int .i64 x1127000_2, .int .i64 x1127001_2] 134 (0, 0)) (by (with_reducible repeat (first | refine kn_' ?_ _ | refine kd_' ?_ | refine ka_' ?_ _)); exact BK1126.out)) : gb1137 ≠ gb1126)); have n12_ := sk_' ((by rw [hg]; exact Nat.ne_of_lt (blk_lt (g := gb1128) (o := .cells #[.int .i64 ((rd_T140 l0 x26_2).f0), .int .i64 ((rd_T140 l0 x26_2).f1)] 140 (0, 0)) (by (with_reducible repeat (first | refine kn_' ?_ _ | refine kd_' ?_ | refine ka_' ?_ _)); exact BK1128.out)) : gb1128 ≠ gb1137)); have n13_ := sk_' ((by rw [hg]; exact Nat.ne_of_gt (blk_lt (g := gb1128) (o := .cells #[.int .i64 ((rd_T140 l0 x26_2).f0), .int .i64 ((rd_T140 l0 x26_2).f1)] 140 (0, 0)) (by (with_reducible repeat (first | refine kn_' ?_ _ | refine kd_' ?_ | refine ka_' ?_ _)); exact BK1128.out)) : gb1137 ≠ gb1128)); have n14_ := sk_' ((by rw [hg]; exact Nat.ne_of_lt (blk_lt (g := gb1133) (o := .cells #[.int .i64 t1130, .int .i64 t1131] 134 (0, 0)) (by (with_reducible repeat (first | refine kn_' ?_ _ | refine kd_' ?_ | refine ka_' ?_ _)); exact BK1133.out)) : gb1133 ≠ gb1137)); have n15_ := sk_' ((by rw [hg]; exact Nat.ne_of_gt (blk_lt (g := gb1133) (o := .cells #[.int .i64 t1130, .int .i64 t1131] 134 (0, 0)) (by (with_reducible repeat (first | refine kn_' ?_ _ | refine kd_' ?_ | refine ka_' ?_ _)); exact BK1133.out)) : gb1137 ≠ gb1133)); clear BK1123; clear BK1126; clear BK1128; clear BK1133; clear HB; have BK1123 := n0_; have BK1126 := n1_; have BK1128 := n2_; have BK1133 := n3_; have HB := n4_; have BK1137 := n5_; have GW1137 := n6_; have GE1137 := n7_; have NB1123_1137 := n8_; have NB1137_1123 := n9_; have NB1126_1137 := n10_; have NB1137_1126 := n11_; have NB1128_1137 := n12_; have NB1137_1128 := n13_; have NB1133_1137 := n14_; have NB1137_1133 := n15_; clear n0_ n1_ n2_ n3_ n4_ n5_ n6_ n7_ n8_ n9_ n10_ n11_ n12_ n13_ n14_ n15_; clear hb hbox hg; have hnb51 := NB1137_1123.out; have hnc51 := NB1123_1137.out; have hnb52 := NB1137_1126.out; have hnc52 := NB1126_1137.out; have hnb53 := NB1137_1128.out; have hnc53 := NB1128_1137.out; have hnb54 := NB1137_1133.out; have hnc54 := NB1133_1137.out; have hcz55_0 : w50.cell? ⟨gb1137, 0, none⟩ = some (.int .i64 0) := (kc_' BK1137.out 0).trans rfl; have hcz55_1 : w50.cell? ⟨gb1137, 1, none⟩ = some (.int .i64 0) := (kc_' BK1137.out 1).trans rfl; have hfz55_0 := kf_' BK1137.out 0; have hfz55_1 := kf_' BK1137.out 1; have hcz56_0 : w50.cell? ⟨gb1126, 0, none⟩ = some (.int .i64 x1127000_2) := (kc_' BK1126.out 0).trans rfl; have hcz56_1 : w50.cell? ⟨gb1126, 1, none⟩ = some (.int .i64 x1127001_2) := (kc_' BK1126.out 1).trans rfl; have hfz56_0 := kf_' BK1126.out 0; have hfz56_1 := kf_' BK1126.out 1))
            go_roundg kj17
            case measure => have := HJ2.out; have := HK2.out; have := HJ17.out; omega
            case rel => exact ⟨(wrap64 (x26_2 + 1)), (x1124000_2), (x1124001_2), (t1134), (t1135), (by first | rfl | (simp; done) | (simp [*]; done)), H', ⟨by have := HJ2.out; have := HK2.out; have := HJ17.out; omega⟩, ⟨by (with_reducible repeat (first | refine kn_' ?_ _ | refine kd_' ?_ | refine ka_' ?_ _)); refine blk_far ?_ NB1123_1126.out _; (with_reducible repeat (first | refine kn_' ?_ _ | refine kd_' ?_ | refine ka_' ?_ _)); refine blk_far ?_ NB1123_1126.out _; (with_reducible repeat (first | refine kn_' ?_ _ | refine kd_' ?_ | refine ka_' ?_ _)); refine blk_far ?_ NB1123_1137.out _; (with_reducible repeat (first | refine kn_' ?_ _ | refine kd_' ?_ | refine ka_' ?_ _)); refine blk_far ?_ NB1123_1137.out _; (with_reducible repeat (first | refine kn_' ?_ _ | refine kd_' ?_ | refine ka_' ?_ _)); exact BK1123.out⟩, ⟨by (with_reducible repeat (first | refine kn_' ?_ _ | refine kd_' ?_ | refine ka_' ?_ _)); refine blk_put (cs := #[.int .i64 t1134, .int .i64 x1127001_2]) ?_ 1 _ rfl; (with_reducible repeat (first | refine kn_' ?_ _ | refine kd_' ?_ | refine ka_' ?_ _)); refine blk_put (cs := #[.int .i64 x1127000_2, .int .i64 x1127001_2]) ?_ 0 _ rfl; (with_reducible repeat (first | refine kn_' ?_ _ | refine kd_' ?_ | refine ka_' ?_ _)); refine blk_far ?_ NB1126_1137.out _; (with_reducible repeat (first | refine kn_' ?_ _ | refine kd_' ?_ | refine ka_' ?_ _)); refine blk_far ?_ NB1126_1137.out _; (with_reducible repeat (first | refine kn_' ?_ _ | refine kd_' ?_ | refine ka_' ?_ _)); exact BK1126.out⟩, ⟨by repeat (first | (with_reducible first | exact HB.out | apply pa_' | apply pn_' | apply pd_' | refine pt_' ?_ GE1123.out | refine pt_' ?_ GE1126.out | refine pt_' ?_ GE1128.out | refine pt_' ?_ GE1133.out | refine pt_' ?_ GE1137.out) | exact HB.out)⟩⟩
           replace c37 := Bool.eq_false_iff.mpr c37
           subst c37
           rw [if_neg (show ¬ (false = true) by decide)] at H
           simp only [Option.some.injEq, Prod.mk.injEq] at H
           obtain ⟨rfl, rfl, rfl⟩ := H
           have hnb57 := NB1128_1123.out
           have hnc57 := NB1123_1128.out
           have hnb58 := NB1128_1126.out
           have hnc58 := NB1126_1128.out
           have hcz59_0 : wc.cell? ⟨gb1128, 0, none⟩ = some (.int .i64 ((rd_T140 l0 x26_2).f0)) := (kc_' BK1128.out 0).trans rfl
           have hcz59_1 : wc.cell? ⟨gb1128, 1, none⟩ = some (.int .i64 ((rd_T140 l0 x26_2).f1)) := (kc_' BK1128.out 1).trans rfl
           have hfz59_0 := kf_' BK1128.out 0
           have hfz59_1 := kf_' BK1128.out 1
           go_wp2_with (first | ((with_reducible refine xj_' (f := 152) rfl ?_); refine goesL_ (some 57) rfl rfl Try.func152 (by kernel_rfl) rfl #[.int .i64 (wrap64 ((wrap64 (x9_17 - ((rd_T140 l0 x26_2).f0))) * 5000)), .int .i64 ((rd_T140 l0 x26_2).f1)] rfl (by (try simp only [xm_', xc_', xn_']); first | done | rfl | (simp only [xd_', xt_']; rfl)) ?_; (with_reducible refine (impl_MakeRatio.calls kj17 (wrap64 ((wrap64 (x9_17 - ((rd_T140 l0 x26_2).f0))) * 5000)) ((rd_T140 l0 x26_2).f1) t1130 t1131 true _ A34.out).mono ?_); rintro e w60 ⟨rfl, hb⟩; refine ⟨_, rfl, ?_⟩; have n0_ := sk_' (blk_below (g := gb1123) (o := .cells #[.int .i64 x1124000_2, .int .i64 x1124001_2] 134 (0, 0)) (by (with_reducible repeat (first | refine kn_' ?_ _ | refine kd_' ?_ | refine ka_' ?_ _)); exact BK1123.out) hb); have n1_ := sk_' (blk_below (g := gb1126) (o := .cells #[.int .i64 x1127000_2, .int .i64 x1127001_2] 134 (0, 0)) (by (with_reducible repeat (first | refine kn_' ?_ _ | refine kd_' ?_ | refine ka_' ?_ _)); exact BK1126.out) hb); have n2_ := sk_' (blk_below (g := gb1128) (o := .cells #[.int .i64 ((rd_T140 l0 x26_2).f0), .int .i64 ((rd_T140 l0 x26_2).f1)] 140 (0, 0)) (by (with_reducible repeat (first | refine kn_' ?_ _ | refine kd_' ?_ | refine ka_' ?_ _)); exact BK1128.out) hb); have n3_ := sk_' (pp_' (by repeat (first | (with_reducible first | exact HB.out | apply pa_' | apply pn_' | apply pd_' | refine pt_' ?_ GE1123.out | refine pt_' ?_ GE1126.out | refine pt_' ?_ GE1128.out) | exact HB.out)) hb); clear BK1123; clear BK1126; clear BK1128; clear HB; have BK1123 := n0_; have BK1126 := n1_; have BK1128 := n2_; have HB := n3_; clear n0_ n1_ n2_ n3_; (try clear hb); (try clear hb2); (try clear hk); (try clear hi)) | ((with_reducible refine gate_dst (N := 10) rfl ?_); refine box_event ?hg (N := 10) ?hd (cs := #[.int .i64 0, .int .i64 0]) (t := 134) ?hr ?_; (case hd => rfl); (case hg => rfl); (case hr => first | (go_simp; done) | (go_simp; rfl)); intro gb1133 hg w61 hbox hb; have n0_ := sk_' (blk_below (g := gb1123) (o := .cells #[.int .i64 x1124000_2, .int .i64 x1124001_2] 134 (0, 0)) (by (with_reducible repeat (first | refine kn_' ?_ _ | refine kd_' ?_ | refine ka_' ?_ _)); exact BK1123.out) hb); have n1_ := sk_' (blk_below (g := gb1126) (o := .cells #[.int .i64 x1127000_2, .int .i64 x1127001_2] 134 (0, 0)) (by (with_reducible repeat (first | refine kn_' ?_ _ | refine kd_' ?_ | refine ka_' ?_ _)); exact BK1126.out) hb); have n2_ := sk_' (blk_below (g := gb1128) (o := .cells #[.int .i64 ((rd_T140 l0 x26_2).f0), .int .i64 ((rd_T140 l0 x26_2).f1)] 140 (0, 0)) (by (with_reducible repeat (first | refine kn_' ?_ _ | refine kd_' ?_ | refine ka_' ?_ _)); exact BK1128.out) hb); have n3_ := sk_' (pp_' (by repeat (first | (with_reducible first | exact HB.out | apply pa_' | apply pn_' | apply pd_' | refine pt_' ?_ GE1123.out | refine pt_' ?_ GE1126.out | refine pt_' ?_ GE1128.out) | exact HB.out)) hb); have n4_ := sk_' (hbox); have n5_ := sk_' ((by rw [hg]; exact (ps_' (by repeat (first | (with_reducible first | exact HB.out | apply pa_' | apply pn_' | apply pd_' | refine pt_' ?_ GE1123.out | refine pt_' ?_ GE1126.out | refine pt_' ?_ GE1128.out) | exact HB.out))) : w.heap.size ≤ gb1133)); have n6_ := sk_' ((by rw [hg]; exact (ps_' (by repeat (first | (with_reducible first | exact HB.out | apply pa_' | apply pn_' | apply pd_' | refine pt_' ?_ GE1123.out | refine pt_' ?_ GE1126.out | refine pt_' ?_ GE1128.out) | exact HB.out))) : w.heap.size ≤ gb1133)); have n7_ := sk_' ((by rw [hg]; exact Nat.ne_of_lt (blk_lt (g := gb1123) (o := .cells #[.int .i64 x1124000_2, .int .i64 x1124001_2] 134 (0, 0)) (by (with_reducible repeat (first | refine kn_' ?_ _ | refine kd_' ?_ | refine ka_' ?_ _)); exact BK1123.out)) : gb1123 ≠ gb1133)); have n8_ := sk_' ((by rw [hg]; exact Nat.ne_of_gt (blk_lt (g := gb1123) (o := .cells #[.int .i64 x1124000_2, .int .i64 x1124001_2] 134 (0, 0)) (by (with_reducible repeat (first | refine kn_' ?_ _ | refine kd_' ?_ | refine ka_' ?_ _)); exact BK1123.out)) : gb1133 ≠ gb1123)); have n9_ := sk_' ((by rw [hg]; exact Nat.ne_of_lt (blk_lt (g := gb1126) (o := .cells #[.int .i64 x1127000_2, .int .i64 x1127001_2] 134 (0, 0)) (by (with_reducible repeat (first | refine kn_' ?_ _ | refine kd_' ?_ | refine ka_' ?_ _)); exact BK1126.out)) : gb1126 ≠ gb1133)); have n10_ := sk_' ((by rw [hg]; exact Nat.ne_of_gt (blk_lt (g := gb1126) (o := .cells #[.int .i64 x1127000_2, .int .i64 x1127001_2] 134 (0, 0)) (by (with_reducible repeat (first | refine kn_' ?_ _ | refine kd_' ?_ | refine ka_' ?_ _)); exact BK1126.out)) : gb1133 ≠ gb1126)); have n11_ := sk_' ((by rw [hg]; exact Nat.ne_of_lt (blk_lt (g := gb1128) (o := .cells #[.int .i64 ((rd_T140 l0 x26_2).f0), .int .i64 ((rd_T140 l0 x26_2).f1)] 140 (0, 0)) (by (with_reducible repeat (first | refine kn_' ?_ _ | refine kd_' ?_ | refine ka_' ?_ _)); exact BK1128.out)) : gb1128 ≠ gb1133)); have n12_ := sk_' ((by rw [hg]; exact Nat.ne_of_gt (blk_lt (g := gb1128) (o := .cells #[.int .i64 ((rd_T140 l0 x26_2).f0), .int .i64 ((rd_T140 l0 x26_2).f1)] 140 (0, 0)) (by (with_reducible repeat (first | refine kn_' ?_ _ | refine kd_' ?_ | refine ka_' ?_ _)); exact BK1128.out)) : gb1133 ≠ gb1128)); clear BK1123; clear BK1126; clear BK1128; clear HB; have BK1123 := n0_; have BK1126 := n1_; have BK1128 := n2_; have HB := n3_; have BK1133 := n4_; have GW1133 := n5_; have GE1133 := n6_; have NB1123_1133 := n7_; have NB1133_1123 := n8_; have NB1126_1133 := n9_; have NB1133_1126 := n10_; have NB1128_1133 := n11_; have NB1133_1128 := n12_; clear n0_ n1_ n2_ n3_ n4_ n5_ n6_ n7_ n8_ n9_ n10_ n11_ n12_; clear hb hbox hg; have hnb62 := NB1133_1123.out; have hnc62 := NB1123_1133.out; have hnb63 := NB1133_1126.out; have hnc63 := NB1126_1133.out; have hnb64 := NB1133_1128.out; have hnc64 := NB1128_1133.out; have hcz65_0 : w61.cell? ⟨gb1133, 0, none⟩ = some (.int .i64 0) := (kc_' BK1133.out 0).trans rfl; have hcz65_1 : w61.cell? ⟨gb1133, 1, none⟩ = some (.int .i64 0) := (kc_' BK1133.out 1).trans rfl; have hfz65_0 := kf_' BK1133.out 0; have hfz65_1 := kf_' BK1133.out 1; have hnb66 := NB1126_1123.out; have hnc66 := NB1123_1126.out; have hcz67_0 : w61.cell? ⟨gb1126, 0, none⟩ = some (.int .i64 x1127000_2) := (kc_' BK1126.out 0).trans rfl; have hcz67_1 : w61.cell? ⟨gb1126, 1, none⟩ = some (.int .i64 x1127001_2) := (kc_' BK1126.out 1).trans rfl; have hfz67_0 := kf_' BK1126.out 0; have hfz67_1 := kf_' BK1126.out 1) | ((with_reducible refine xj_' (f := 153) rfl ?_); refine goesL_ (some 63) rfl rfl Try.func153 (by kernel_rfl) rfl #[.agg #[.int .i64 x1127000_2, .int .i64 x1127001_2], .agg #[.int .i64 t1130, .int .i64 t1131]] rfl (by (try simp only [xm_', xc_', xn_']); first | done | rfl | (simp only [xd_', xt_']; rfl)) ?_; (with_reducible refine (impl_AddRatio.calls kj17 x1127000_2 x1127001_2 t1130 t1131 t1134 t1135 false _ A35.out).mono ?_); rintro e w68 ⟨rfl, hb⟩; refine ⟨_, rfl, ?_⟩; have n0_ := sk_' (blk_below (g := gb1123) (o := .cells #[.int .i64 x1124000_2, .int .i64 x1124001_2] 134 (0, 0)) (by (with_reducible repeat (first | refine kn_' ?_ _ | refine kd_' ?_ | refine ka_' ?_ _)); refine blk_far ?_ NB1123_1133.out _; (with_reducible repeat (first | refine kn_' ?_ _ | refine kd_' ?_ | refine ka_' ?_ _)); refine blk_far ?_ NB1123_1133.out _; (with_reducible repeat (first | refine kn_' ?_ _ | refine kd_' ?_ | refine ka_' ?_ _)); exact BK1123.out) hb); have n1_ := sk_' (blk_below (g := gb1126) (o := .cells #[.int .i64 x1127000_2, .int .i64 x1127001_2] 134 (0, 0)) (by (with_reducible repeat (first | refine kn_' ?_ _ | refine kd_' ?_ | refine ka_' ?_ _)); refine blk_far ?_ NB1126_1133.out _; (with_reducible repeat (first | refine kn_' ?_ _ | refine kd_' ?_ | refine ka_' ?_ _)); refine blk_far ?_ NB1126_1133.out _; (with_reducible repeat (first | refine kn_' ?_ _ | refine kd_' ?_ | refine ka_' ?_ _)); exact BK1126.out) hb); have n2_ := sk_' (blk_below (g := gb1128) (o := .cells #[.int .i64 ((rd_T140 l0 x26_2).f0), .int .i64 ((rd_T140 l0 x26_2).f1)] 140 (0, 0)) (by (with_reducible repeat (first | refine kn_' ?_ _ | refine kd_' ?_ | refine ka_' ?_ _)); refine blk_far ?_ NB1128_1133.out _; (with_reducible repeat (first | refine kn_' ?_ _ | refine kd_' ?_ | refine ka_' ?_ _)); refine blk_far ?_ NB1128_1133.out _; (with_reducible repeat (first | refine kn_' ?_ _ | refine kd_' ?_ | refine ka_' ?_ _)); exact BK1128.out) hb); have n3_ := sk_' (blk_below (g := gb1133) (o := .cells #[.int .i64 t1130, .int .i64 t1131] 134 (0, 0)) (by (with_reducible repeat (first | refine kn_' ?_ _ | refine kd_' ?_ | refine ka_' ?_ _)); refine blk_put (cs := #[.int .i64 t1130, .int .i64 0]) ?_ 1 _ rfl; (with_reducible repeat (first | refine kn_' ?_ _ | refine kd_' ?_ | refine ka_' ?_ _)); refine blk_put (cs := #[.int .i64 0, .int .i64 0]) ?_ 0 _ rfl; (with_reducible repeat (first | refine kn_' ?_ _ | refine kd_' ?_ | refine ka_' ?_ _)); exact BK1133.out) hb); have n4_ := sk_' (pp_' (by repeat (first | (with_reducible first | exact HB.out | apply pa_' | apply pn_' | apply pd_' | refine pt_' ?_ GE1123.out | refine pt_' ?_ GE1126.out | refine pt_' ?_ GE1128.out | refine pt_' ?_ GE1133.out) | exact HB.out)) hb); clear BK1123; clear BK1126; clear BK1128; clear BK1133; clear HB; have BK1123 := n0_; have BK1126 := n1_; have BK1128 := n2_; have BK1133 := n3_; have HB := n4_; clear n0_ n1_ n2_ n3_ n4_; (try clear hb); (try clear hb2); (try clear hk); (try clear hi)) | ((with_reducible refine gate_dst (N := 12) rfl ?_); refine box_event ?hg (N := 12) ?hd (cs := #[.int .i64 0, .int .i64 0]) (t := 134) ?hr ?_; (case hd => rfl); (case hg => rfl); (case hr => first | (go_simp; done) | (go_simp; rfl)); intro gb1137 hg w69 hbox hb; have n0_ := sk_' (blk_below (g := gb1123) (o := .cells #[.int .i64 x1124000_2, .int .i64 x1124001_2] 134 (0, 0)) (by (with_reducible repeat (first | refine kn_' ?_ _ | refine kd_' ?_ | refine ka_' ?_ _)); exact BK1123.out) hb); have n1_ := sk_' (blk_below (g := gb1126) (o := .cells #[.int .i64 x1127000_2, .int .i64 x1127001_2] 134 (0, 0)) (by (with_reducible repeat (first | refine kn_' ?_ _ | refine kd_' ?_ | refine ka_' ?_ _)); exact BK1126.out) hb); have n2_ := sk_' (blk_below (g := gb1128) (o := .cells #[.int .i64 ((rd_T140 l0 x26_2).f0), .int .i64 ((rd_T140 l0 x26_2).f1)] 140 (0, 0)) (by (with_reducible repeat (first | refine kn_' ?_ _ | refine kd_' ?_ | refine ka_' ?_ _)); exact BK1128.out) hb); have n3_ := sk_' (blk_below (g := gb1133) (o := .cells #[.int .i64 t1130, .int .i64 t1131] 134 (0, 0)) (by (with_reducible repeat (first | refine kn_' ?_ _ | refine kd_' ?_ | refine ka_' ?_ _)); exact BK1133.out) hb); have n4_ := sk_' (pp_' (by repeat (first | (with_reducible first | exact HB.out | apply pa_' | apply pn_' | apply pd_' | refine pt_' ?_ GE1123.out | refine pt_' ?_ GE1126.out | refine pt_' ?_ GE1128.out | refine pt_' ?_ GE1133.out) | exact HB.out)) hb); have n5_ := sk_' (hbox); have n6_ := sk_' ((by rw [hg]; exact (ps_' (by repeat (first | (with_reducible first | exact HB.out | apply pa_' | apply pn_' | apply pd_' | refine pt_' ?_ GE1123.out | refine pt_' ?_ GE1126.out | refine pt_' ?_ GE1128.out | refine pt_' ?_ GE1133.out) | exact HB.out))) : w.heap.size ≤ gb1137)); have n7_ := sk_' ((by rw [hg]; exact (ps_' (by repeat (first | (with_reducible first | exact HB.out | apply pa_' | apply pn_' | apply pd_' | refine pt_' ?_ GE1123.out | refine pt_' ?_ GE1126.out | refine pt_' ?_ GE1128.out | refine pt_' ?_ GE1133.out) | exact HB.out))) : w.heap.size ≤ gb1137)); have n8_ := sk_' ((by rw [hg]; exact Nat.ne_of_lt (blk_lt (g := gb1123) (o := .cells #[.int .i64 x1124000_2, .int .i64 x1124001_2] 134 (0, 0)) (by (with_reducible repeat (first | refine kn_' ?_ _ | refine kd_' ?_ | refine ka_' ?_ _)); exact BK1123.out)) : gb1123 ≠ gb1137)); have n9_ := sk_' ((by rw [hg]; exact Nat.ne_of_gt (blk_lt (g := gb1123) (o := .cells #[.int .i64 x1124000_2, .int .i64 x1124001_2] 134 (0, 0)) (by (with_reducible repeat (first | refine kn_' ?_ _ | refine kd_' ?_ | refine ka_' ?_ _)); exact BK1123.out)) : gb1137 ≠ gb1123)); have n10_ := sk_' ((by rw [hg]; exact Nat.ne_of_lt (blk_lt (g := gb1126) (o := .cells #[.int .i64 x1127000_2, .int .i64 x1127001_2] 134 (0, 0)) (by (with_reducible repeat (first | refine kn_' ?_ _ | refine kd_' ?_ | refine ka_' ?_ _)); exact BK1126.out)) : gb1126 ≠ gb1137)); have n11_ := sk_' ((by rw [hg]; exact Nat.ne_of_gt (blk_lt (g := gb1126) (o := .cells #[.int .i64 x1127000_2, .int .i64 x1127001_2] 134 (0, 0)) (by (with_reducible repeat (first | refine kn_' ?_ _ | refine kd_' ?_ | refine ka_' ?_ _)); exact BK1126.out)) : gb1137 ≠ gb1126)); have n12_ := sk_' ((by rw [hg]; exact Nat.ne_of_lt (blk_lt (g := gb1128) (o := .cells #[.int .i64 ((rd_T140 l0 x26_2).f0), .int .i64 ((rd_T140 l0 x26_2).f1)] 140 (0, 0)) (by (with_reducible repeat (first | refine kn_' ?_ _ | refine kd_' ?_ | refine ka_' ?_ _)); exact BK1128.out)) : gb1128 ≠ gb1137)); have n13_ := sk_' ((by rw [hg]; exact Nat.ne_of_gt (blk_lt (g := gb1128) (o := .cells #[.int .i64 ((rd_T140 l0 x26_2).f0), .int .i64 ((rd_T140 l0 x26_2).f1)] 140 (0, 0)) (by (with_reducible repeat (first | refine kn_' ?_ _ | refine kd_' ?_ | refine ka_' ?_ _)); exact BK1128.out)) : gb1137 ≠ gb1128)); have n14_ := sk_' ((by rw [hg]; exact Nat.ne_of_lt (blk_lt (g := gb1133) (o := .cells #[.int .i64 t1130, .int .i64 t1131] 134 (0, 0)) (by (with_reducible repeat (first | refine kn_' ?_ _ | refine kd_' ?_ | refine ka_' ?_ _)); exact BK1133.out)) : gb1133 ≠ gb1137)); have n15_ := sk_' ((by rw [hg]; exact Nat.ne_of_gt (blk_lt (g := gb1133) (o := .cells #[.int .i64 t1130, .int .i64 t1131] 134 (0, 0)) (by (with_reducible repeat (first | refine kn_' ?_ _ | refine kd_' ?_ | refine ka_' ?_ _)); exact BK1133.out)) : gb1137 ≠ gb1133)); clear BK1123; clear BK1126; clear BK1128; clear BK1133; clear HB; have BK1123 := n0_; have BK1126 := n1_; have BK1128 := n2_; have BK1133 := n3_; have HB := n4_; have BK1137 := n5_; have GW1137 := n6_; have GE1137 := n7_; have NB1123_1137 := n8_; have NB1137_1123 := n9_; have NB1126_1137 := n10_; have NB1137_1126 := n11_; have NB1128_1137 := n12_; have NB1137_1128 := n13_; have NB1133_1137 := n14_; have NB1137_1133 := n15_; clear n0_ n1_ n2_ n3_ n4_ n5_ n6_ n7_ n8_ n9_ n10_ n11_ n12_ n13_ n14_ n15_; clear hb hbox hg; have hnb70 := NB1137_1123.out; have hnc70 := NB1123_1137.out; have hnb71 := NB1137_1126.out; have hnc71 := NB1126_1137.out; have hnb72 := NB1137_1128.out; have hnc72 := NB1128_1137.out; have hnb73 := NB1137_1133.out; have hnc73 := NB1133_1137.out; have hcz74_0 : w69.cell? ⟨gb1137, 0, none⟩ = some (.int .i64 0) := (kc_' BK1137.out 0).trans rfl; have hcz74_1 : w69.cell? ⟨gb1137, 1, none⟩ = some (.int .i64 0) := (kc_' BK1137.out 1).trans rfl; have hfz74_0 := kf_' BK1137.out 0; have hfz74_1 := kf_' BK1137.out 1; have hcz75_0 : w69.cell? ⟨gb1123, 0, none⟩ = some (.int .i64 x1124000_2) := (kc_' BK1123.out 0).trans rfl; have hcz75_1 : w69.cell? ⟨gb1123, 1, none⟩ = some (.int .i64 x1124001_2) := (kc_' BK1123.out 1).trans rfl; have hfz75_0 := kf_' BK1123.out 0; have hfz75_1 := kf_' BK1123.out 1))
           refine bodyPost_ret (results_ct rfl _ _ gb1123 134 #[.int .i64 0, .int .i64 0] (0, 0) _ rfl (by (with_reducible repeat (first | refine kn_' ?_ _ | refine kd_' ?_ | refine ka_' ?_ _)); refine blk_put (cs := #[.int .i64 0, .int .i64 x1124001_2]) ?_ 1 _ rfl; (with_reducible repeat (first | refine kn_' ?_ _ | refine kd_' ?_ | refine ka_' ?_ _)); refine blk_put (cs := #[.int .i64 x1124000_2, .int .i64 x1124001_2]) ?_ 0 _ rfl; (with_reducible repeat (first | refine kn_' ?_ _ | refine kd_' ?_ | refine ka_' ?_ _)); refine blk_far ?_ NB1123_1137.out _; (with_reducible repeat (first | refine kn_' ?_ _ | refine kd_' ?_ | refine ka_' ?_ _)); refine blk_far ?_ NB1123_1137.out _; (with_reducible repeat (first | refine kn_' ?_ _ | refine kd_' ?_ | refine ka_' ?_ _)); exact BK1123.out) Try.underlying134 rfl (by kernel_rfl)) rfl ?_
           exact ⟨by first | rfl | (simp [errW_none, errW_some] <;> rfl) | (simp [*, errW_none, errW_some] <;> rfl), by repeat (first | (with_reducible first | exact HB.out | apply pa_' | apply pn_' | apply pd_' | refine pt_' ?_ GE1123.out | refine pt_' ?_ GE1126.out | refine pt_' ?_ GE1128.out | refine pt_' ?_ GE1133.out | refine pt_' ?_ GE1137.out) | exact HB.out)⟩
          replace c36 := Bool.eq_false_iff.mpr c36
          subst c36
          rw [if_neg (show ¬ (false = true) by decide)] at H
          simp only [Option.some.injEq, Prod.mk.injEq] at H
          obtain ⟨rfl, rfl, rfl⟩ := H
          have hnb76 := NB1128_1123.out
          have hnc76 := NB1123_1128.out
          have hnb77 := NB1128_1126.out
          have hnc77 := NB1126_1128.out
          have hcz78_0 : wc.cell? ⟨gb1128, 0, none⟩ = some (.int .i64 ((rd_T140 l0 x26_2).f0)) := (kc_' BK1128.out 0).trans rfl
          have hcz78_1 : wc.cell? ⟨gb1128, 1, none⟩ = some (.int .i64 ((rd_T140 l0 x26_2).f1)) := (kc_' BK1128.out 1).trans rfl
          have hfz78_0 := kf_' BK1128.out 0
          have hfz78_1 := kf_' BK1128.out 1
          go_wp2_with (first | ((with_reducible refine xj_' (f := 152) rfl ?_); refine goesL_ (some 57) rfl rfl Try.func152 (by kernel_rfl) rfl #[.int .i64 (wrap64 ((wrap64 (x9_17 - ((rd_T140 l0 x26_2).f0))) * 5000)), .int .i64 ((rd_T140 l0 x26_2).f1)] rfl (by (try simp only [xm_', xc_', xn_']); first | done | rfl | (simp only [xd_', xt_']; rfl)) ?_; (with_reducible refine (impl_MakeRatio.calls kj17 (wrap64 ((wrap64 (x9_17 - ((rd_T140 l0 x26_2).f0))) * 5000)) ((rd_T140 l0 x26_2).f1) t1130 t1131 false _ A34.out).mono ?_); rintro e w79 ⟨rfl, hb⟩; refine ⟨_, rfl, ?_⟩; have n0_ := sk_' (blk_below (g := gb1123) (o := .cells #[.int .i64 x1124000_2, .int .i64 x1124001_2] 134 (0, 0)) (by (with_reducible repeat (first | refine kn_' ?_ _ | refine kd_' ?_ | refine ka_' ?_ _)); exact BK1123.out) hb); have n1_ := sk_' (blk_below (g := gb1126) (o := .cells #[.int .i64 x1127000_2, .int .i64 x1127001_2] 134 (0, 0)) (by (with_reducible repeat (first | refine kn_' ?_ _ | refine kd_' ?_ | refine ka_' ?_ _)); exact BK1126.out) hb); have n2_ := sk_' (blk_below (g := gb1128) (o := .cells #[.int .i64 ((rd_T140 l0 x26_2).f0), .int .i64 ((rd_T140 l0 x26_2).f1)] 140 (0, 0)) (by (with_reducible repeat (first | refine kn_' ?_ _ | refine kd_' ?_ | refine ka_' ?_ _)); exact BK1128.out) hb); have n3_ := sk_' (pp_' (by repeat (first | (with_reducible first | exact HB.out | apply pa_' | apply pn_' | apply pd_' | refine pt_' ?_ GE1123.out | refine pt_' ?_ GE1126.out | refine pt_' ?_ GE1128.out) | exact HB.out)) hb); clear BK1123; clear BK1126; clear BK1128; clear HB; have BK1123 := n0_; have BK1126 := n1_; have BK1128 := n2_; have HB := n3_; clear n0_ n1_ n2_ n3_; (try clear hb); (try clear hb2); (try clear hk); (try clear hi)) | ((with_reducible refine gate_dst (N := 10) rfl ?_); refine box_event ?hg (N := 10) ?hd (cs := #[.int .i64 0, .int .i64 0]) (t := 134) ?hr ?_; (case hd => rfl); (case hg => rfl); (case hr => first | (go_simp; done) | (go_simp; rfl)); intro gb1133 hg w80 hbox hb; have n0_ := sk_' (blk_below (g := gb1123) (o := .cells #[.int .i64 x1124000_2, .int .i64 x1124001_2] 134 (0, 0)) (by (with_reducible repeat (first | refine kn_' ?_ _ | refine kd_' ?_ | refine ka_' ?_ _)); exact BK1123.out) hb); have n1_ := sk_' (blk_below (g := gb1126) (o := .cells #[.int .i64 x1127000_2, .int .i64 x1127001_2] 134 (0, 0)) (by (with_reducible repeat (first | refine kn_' ?_ _ | refine kd_' ?_ | refine ka_' ?_ _)); exact BK1126.out) hb); have n2_ := sk_' (blk_below (g := gb1128) (o := .cells #[.int .i64 ((rd_T140 l0 x26_2).f0), .int .i64 ((rd_T140 l0 x26_2).f1)] 140 (0, 0)) (by (with_reducible repeat (first | refine kn_' ?_ _ | refine kd_' ?_ | refine ka_' ?_ _)); exact BK1128.out) hb); have n3_ := sk_' (pp_' (by repeat (first | (with_reducible first | exact HB.out | apply pa_' | apply pn_' | apply pd_' | refine pt_' ?_ GE1123.out | refine pt_' ?_ GE1126.out | refine pt_' ?_ GE1128.out) | exact HB.out)) hb); have n4_ := sk_' (hbox); have n5_ := sk_' ((by rw [hg]; exact (ps_' (by repeat (first | (with_reducible first | exact HB.out | apply pa_' | apply pn_' | apply pd_' | refine pt_' ?_ GE1123.out | refine pt_' ?_ GE1126.out | refine pt_' ?_ GE1128.out) | exact HB.out))) : w.heap.size ≤ gb1133)); have n6_ := sk_' ((by rw [hg]; exact (ps_' (by repeat (first | (with_reducible first | exact HB.out | apply pa_' | apply pn_' | apply pd_' | refine pt_' ?_ GE1123.out | refine pt_' ?_ GE1126.out | refine pt_' ?_ GE1128.out) | exact HB.out))) : w.heap.size ≤ gb1133)); have n7_ := sk_' ((by rw [hg]; exact Nat.ne_of_lt (blk_lt (g := gb1123) (o := .cells #[.int .i64 x1124000_2, .int .i64 x1124001_2] 134 (0, 0)) (by (with_reducible repeat (first | refine kn_' ?_ _ | refine kd_' ?_ | refine ka_' ?_ _)); exact BK1123.out)) : gb1123 ≠ gb1133)); have n8_ := sk_' ((by rw [hg]; exact Nat.ne_of_gt (blk_lt (g := gb1123) (o := .cells #[.int .i64 x1124000_2, .int .i64 x1124001_2] 134 (0, 0)) (by (with_reducible repeat (first | refine kn_' ?_ _ | refine kd_' ?_ | refine ka_' ?_ _)); exact BK1123.out)) : gb1133 ≠ gb1123)); have n9_ := sk_' ((by rw [hg]; exact Nat.ne_of_lt (blk_lt (g := gb1126) (o := .cells #[.int .i64 x1127000_2, .int .i64 x1127001_2] 134 (0, 0)) (by (with_reducible repeat (first | refine kn_' ?_ _ | refine kd_' ?_ | refine ka_' ?_ _)); exact BK1126.out)) : gb1126 ≠ gb1133)); have n10_ := sk_' ((by rw [hg]; exact Nat.ne_of_gt (blk_lt (g := gb1126) (o := .cells #[.int .i64 x1127000_2, .int .i64 x1127001_2] 134 (0, 0)) (by (with_reducible repeat (first | refine kn_' ?_ _ | refine kd_' ?_ | refine ka_' ?_ _)); exact BK1126.out)) : gb1133 ≠ gb1126)); have n11_ := sk_' ((by rw [hg]; exact Nat.ne_of_lt (blk_lt (g := gb1128) (o := .cells #[.int .i64 ((rd_T140 l0 x26_2).f0), .int .i64 ((rd_T140 l0 x26_2).f1)] 140 (0, 0)) (by (with_reducible repeat (first | refine kn_' ?_ _ | refine kd_' ?_ | refine ka_' ?_ _)); exact BK1128.out)) : gb1128 ≠ gb1133)); have n12_ := sk_' ((by rw [hg]; exact Nat.ne_of_gt (blk_lt (g := gb1128) (o := .cells #[.int .i64 ((rd_T140 l0 x26_2).f0), .int .i64 ((rd_T140 l0 x26_2).f1)] 140 (0, 0)) (by (with_reducible repeat (first | refine kn_' ?_ _ | refine kd_' ?_ | refine ka_' ?_ _)); exact BK1128.out)) : gb1133 ≠ gb1128)); clear BK1123; clear BK1126; clear BK1128; clear HB; have BK1123 := n0_; have BK1126 := n1_; have BK1128 := n2_; have HB := n3_; have BK1133 := n4_; have GW1133 := n5_; have GE1133 := n6_; have NB1123_1133 := n7_; have NB1133_1123 := n8_; have NB1126_1133 := n9_; have NB1133_1126 := n10_; have NB1128_1133 := n11_; have NB1133_1128 := n12_; clear n0_ n1_ n2_ n3_ n4_ n5_ n6_ n7_ n8_ n9_ n10_ n11_ n12_; clear hb hbox hg; have hnb81 := NB1133_1123.out; have hnc81 := NB1123_1133.out; have hnb82 := NB1133_1126.out; have hnc82 := NB1126_1133.out; have hnb83 := NB1133_1128.out; have hnc83 := NB1128_1133.out; have hcz84_0 : w80.cell? ⟨gb1133, 0, none⟩ = some (.int .i64 0) := (kc_' BK1133.out 0).trans rfl; have hcz84_1 : w80.cell? ⟨gb1133, 1, none⟩ = some (.int .i64 0) := (kc_' BK1133.out 1).trans rfl; have hfz84_0 := kf_' BK1133.out 0; have hfz84_1 := kf_' BK1133.out 1; have hnb85 := NB1126_1123.out; have hnc85 := NB1123_1126.out; have hcz86_0 : w80.cell? ⟨gb1126, 0, none⟩ = some (.int .i64 x1127000_2) := (kc_' BK1126.out 0).trans rfl; have hcz86_1 : w80.cell? ⟨gb1126, 1, none⟩ = some (.int .i64 x1127001_2) := (kc_' BK1126.out 1).trans rfl; have hfz86_0 := kf_' BK1126.out 0; have hfz86_1 := kf_' BK1126.out 1) | ((with_reducible refine xj_' (f := 153) rfl ?_); refine goesL_ (some 63) rfl rfl Try.func153 (by kernel_rfl) rfl #[.agg #[.int .i64 x1127000_2, .int .i64 x1127001_2], .agg #[.int .i64 t1130, .int .i64 t1131]] rfl (by (try simp only [xm_', xc_', xn_']); first | done | rfl | (simp only [xd_', xt_']; rfl)) ?_; (with_reducible refine (impl_AddRatio.calls kj17 x1127000_2 x1127001_2 t1130 t1131 t1134 t1135 t1136 _ A35.out).mono ?_); rintro e w87 ⟨rfl, hb⟩; refine ⟨_, rfl, ?_⟩; have n0_ := sk_' (blk_below (g := gb1123) (o := .cells #[.int .i64 x1124000_2, .int .i64 x1124001_2] 134 (0, 0)) (by (with_reducible repeat (first | refine kn_' ?_ _ | refine kd_' ?_ | refine ka_' ?_ _)); refine blk_far ?_ NB1123_1133.out _; (with_reducible repeat (first | refine kn_' ?_ _ | refine kd_' ?_ | refine ka_' ?_ _)); refine blk_far ?_ NB1123_1133.out _; (with_reducible repeat (first | refine kn_' ?_ _ | refine kd_' ?_ | refine ka_' ?_ _)); exact BK1123.out) hb); have n1_ := sk_' (blk_below (g := gb1126) (o := .cells #[.int .i64 x1127000_2, .int .i64 x1127001_2] 134 (0, 0)) (by (with_reducible repeat (first | refine kn_' ?_ _ | refine kd_' ?_ | refine ka_' ?_ _)); refine blk_far ?_ NB1126_1133.out _; (with_reducible repeat (first | refine kn_' ?_ _ | refine kd_' ?_ | refine ka_' ?_ _)); refine blk_far ?_ NB1126_1133.out _; (with_reducible repeat (first | refine kn_' ?_ _ | refine kd_' ?_ | refine ka_' ?_ _)); exact BK1126.out) hb); have n2_ := sk_' (blk_below (g := gb1128) (o := .cells #[.int .i64 ((rd_T140 l0 x26_2).f0), .int .i64 ((rd_T140 l0 x26_2).f1)] 140 (0, 0)) (by (with_reducible repeat (first | refine kn_' ?_ _ | refine kd_' ?_ | refine ka_' ?_ _)); refine blk_far ?_ NB1128_1133.out _; (with_reducible repeat (first | refine kn_' ?_ _ | refine kd_' ?_ | refine ka_' ?_ _)); refine blk_far ?_ NB1128_1133.out _; (with_reducible repeat (first | refine kn_' ?_ _ | refine kd_' ?_ | refine ka_' ?_ _)); exact BK1128.out) hb); have n3_ := sk_' (blk_below (g := gb1133) (o := .cells #[.int .i64 t1130, .int .i64 t1131] 134 (0, 0)) (by (with_reducible repeat (first | refine kn_' ?_ _ | refine kd_' ?_ | refine ka_' ?_ _)); refine blk_put (cs := #[.int .i64 t1130, .int .i64 0]) ?_ 1 _ rfl; (with_reducible repeat (first | refine kn_' ?_ _ | refine kd_' ?_ | refine ka_' ?_ _)); refine blk_put (cs := #[.int .i64 0, .int .i64 0]) ?_ 0 _ rfl; (with_reducible repeat (first | refine kn_' ?_ _ | refine kd_' ?_ | refine ka_' ?_ _)); exact BK1133.out) hb); have n4_ := sk_' (pp_' (by repeat (first | (with_reducible first | exact HB.out | apply pa_' | apply pn_' | apply pd_' | refine pt_' ?_ GE1123.out | refine pt_' ?_ GE1126.out | refine pt_' ?_ GE1128.out | refine pt_' ?_ GE1133.out) | exact HB.out)) hb); clear BK1123; clear BK1126; clear BK1128; clear BK1133; clear HB; have BK1123 := n0_; have BK1126 := n1_; have BK1128 := n2_; have BK1133 := n3_; have HB := n4_; clear n0_ n1_ n2_ n3_ n4_; (try clear hb); (try clear hb2); (try clear hk); (try clear hi)) | ((with_reducible refine gate_dst (N := 12) rfl ?_); refine box_event ?hg (N := 12) ?hd (cs := #[.int .i64 0, .int .i64 0]) (t := 134) ?hr ?_; (case hd => rfl); (case hg => rfl); (case hr => first | (go_simp; done) | (go_simp; rfl)); intro gb1137 hg w88 hbox hb; have n0_ := sk_' (blk_below (g := gb1123) (o := .cells #[.int .i64 x1124000_2, .int .i64 x1124001_2] 134 (0, 0)) (by (with_reducible repeat (first | refine kn_' ?_ _ | refine kd_' ?_ | refine ka_' ?_ _)); exact BK1123.out) hb); have n1_ := sk_' (blk_below (g := gb1126) (o := .cells #[.int .i64 x1127000_2, .int .i64 x1127001_2] 134 (0, 0)) (by (with_reducible repeat (first | refine kn_' ?_ _ | refine kd_' ?_ | refine ka_' ?_ _)); exact BK1126.out) hb); have n2_ := sk_' (blk_below (g := gb1128) (o := .cells #[.int .i64 ((rd_T140 l0 x26_2).f0), .int .i64 ((rd_T140 l0 x26_2).f1)] 140 (0, 0)) (by (with_reducible repeat (first | refine kn_' ?_ _ | refine kd_' ?_ | refine ka_' ?_ _)); exact BK1128.out) hb); have n3_ := sk_' (blk_below (g := gb1133) (o := .cells #[.int .i64 t1130, .int .i64 t1131] 134 (0, 0)) (by (with_reducible repeat (first | refine kn_' ?_ _ | refine kd_' ?_ | refine ka_' ?_ _)); exact BK1133.out) hb); have n4_ := sk_' (pp_' (by repeat (first | (with_reducible first | exact HB.out | apply pa_' | apply pn_' | apply pd_' | refine pt_' ?_ GE1123.out | refine pt_' ?_ GE1126.out | refine pt_' ?_ GE1128.out | refine pt_' ?_ GE1133.out) | exact HB.out)) hb); have n5_ := sk_' (hbox); have n6_ := sk_' ((by rw [hg]; exact (ps_' (by repeat (first | (with_reducible first | exact HB.out | apply pa_' | apply pn_' | apply pd_' | refine pt_' ?_ GE1123.out | refine pt_' ?_ GE1126.out | refine pt_' ?_ GE1128.out | refine pt_' ?_ GE1133.out) | exact HB.out))) : w.heap.size ≤ gb1137)); have n7_ := sk_' ((by rw [hg]; exact (ps_' (by repeat (first | (with_reducible first | exact HB.out | apply pa_' | apply pn_' | apply pd_' | refine pt_' ?_ GE1123.out | refine pt_' ?_ GE1126.out | refine pt_' ?_ GE1128.out | refine pt_' ?_ GE1133.out) | exact HB.out))) : w.heap.size ≤ gb1137)); have n8_ := sk_' ((by rw [hg]; exact Nat.ne_of_lt (blk_lt (g := gb1123) (o := .cells #[.int .i64 x1124000_2, .int .i64 x1124001_2] 134 (0, 0)) (by (with_reducible repeat (first | refine kn_' ?_ _ | refine kd_' ?_ | refine ka_' ?_ _)); exact BK1123.out)) : gb1123 ≠ gb1137)); have n9_ := sk_' ((by rw [hg]; exact Nat.ne_of_gt (blk_lt (g := gb1123) (o := .cells #[.int .i64 x1124000_2, .int .i64 x1124001_2] 134 (0, 0)) (by (with_reducible repeat (first | refine kn_' ?_ _ | refine kd_' ?_ | refine ka_' ?_ _)); exact BK1123.out)) : gb1137 ≠ gb1123)); have n10_ := sk_' ((by rw [hg]; exact Nat.ne_of_lt (blk_lt (g := gb1126) (o := .cells #[.int .i64 x1127000_2, .int .i64 x1127001_2] 134 (0, 0)) (by (with_reducible repeat (first | refine kn_' ?_ _ | refine kd_' ?_ | refine ka_' ?_ _)); exact BK1126.out)) : gb1126 ≠ gb1137)); have n11_ := sk_' ((by rw [hg]; exact Nat.ne_of_gt (blk_lt (g := gb1126) (o := .cells #[.int .i64 x1127000_2, .int .i64 x1127001_2] 134 (0, 0)) (by (with_reducible repeat (first | refine kn_' ?_ _ | refine kd_' ?_ | refine ka_' ?_ _)); exact BK1126.out)) : gb1137 ≠ gb1126)); have n12_ := sk_' ((by rw [hg]; exact Nat.ne_of_lt (blk_lt (g := gb1128) (o := .cells #[.int .i64 ((rd_T140 l0 x26_2).f0), .int .i64 ((rd_T140 l0 x26_2).f1)] 140 (0, 0)) (by (with_reducible repeat (first | refine kn_' ?_ _ | refine kd_' ?_ | refine ka_' ?_ _)); exact BK1128.out)) : gb1128 ≠ gb1137)); have n13_ := sk_' ((by rw [hg]; exact Nat.ne_of_gt (blk_lt (g := gb1128) (o := .cells #[.int .i64 ((rd_T140 l0 x26_2).f0), .int .i64 ((rd_T140 l0 x26_2).f1)] 140 (0, 0)) (by (with_reducible repeat (first | refine kn_' ?_ _ | refine kd_' ?_ | refine ka_' ?_ _)); exact BK1128.out)) : gb1137 ≠ gb1128)); have n14_ := sk_' ((by rw [hg]; exact Nat.ne_of_lt (blk_lt (g := gb1133) (o := .cells #[.int .i64 t1130, .int .i64 t1131] 134 (0, 0)) (by (with_reducible repeat (first | refine kn_' ?_ _ | refine kd_' ?_ | refine ka_' ?_ _)); exact BK1133.out)) : gb1133 ≠ gb1137)); have n15_ := sk_' ((by rw [hg]; exact Nat.ne_of_gt (blk_lt (g := gb1133) (o := .cells #[.int .i64 t1130, .int .i64 t1131] 134 (0, 0)) (by (with_reducible repeat (first | refine kn_' ?_ _ | refine kd_' ?_ | refine ka_' ?_ _)); exact BK1133.out)) : gb1137 ≠ gb1133)); clear BK1123; clear BK1126; clear BK1128; clear BK1133; clear HB; have BK1123 := n0_; have BK1126 := n1_; have BK1128 := n2_; have BK1133 := n3_; have HB := n4_; have BK1137 := n5_; have GW1137 := n6_; have GE1137 := n7_; have NB1123_1137 := n8_; have NB1137_1123 := n9_; have NB1126_1137 := n10_; have NB1137_1126 := n11_; have NB1128_1137 := n12_; have NB1137_1128 := n13_; have NB1133_1137 := n14_; have NB1137_1133 := n15_; clear n0_ n1_ n2_ n3_ n4_ n5_ n6_ n7_ n8_ n9_ n10_ n11_ n12_ n13_ n14_ n15_; clear hb hbox hg; have hnb89 := NB1137_1123.out; have hnc89 := NB1123_1137.out; have hnb90 := NB1137_1126.out; have hnc90 := NB1126_1137.out; have hnb91 := NB1137_1128.out; have hnc91 := NB1128_1137.out; have hnb92 := NB1137_1133.out; have hnc92 := NB1133_1137.out; have hcz93_0 : w88.cell? ⟨gb1137, 0, none⟩ = some (.int .i64 0) := (kc_' BK1137.out 0).trans rfl; have hcz93_1 : w88.cell? ⟨gb1137, 1, none⟩ = some (.int .i64 0) := (kc_' BK1137.out 1).trans rfl; have hfz93_0 := kf_' BK1137.out 0; have hfz93_1 := kf_' BK1137.out 1; have hcz94_0 : w88.cell? ⟨gb1123, 0, none⟩ = some (.int .i64 x1124000_2) := (kc_' BK1123.out 0).trans rfl; have hcz94_1 : w88.cell? ⟨gb1123, 1, none⟩ = some (.int .i64 x1124001_2) := (kc_' BK1123.out 1).trans rfl; have hfz94_0 := kf_' BK1123.out 0; have hfz94_1 := kf_' BK1123.out 1))
          refine bodyPost_ret (results_ct rfl _ _ gb1123 134 #[.int .i64 0, .int .i64 0] (0, 0) _ rfl (by (with_reducible repeat (first | refine kn_' ?_ _ | refine kd_' ?_ | refine ka_' ?_ _)); refine blk_put (cs := #[.int .i64 0, .int .i64 x1124001_2]) ?_ 1 _ rfl; (with_reducible repeat (first | refine kn_' ?_ _ | refine kd_' ?_ | refine ka_' ?_ _)); refine blk_put (cs := #[.int .i64 x1124000_2, .int .i64 x1124001_2]) ?_ 0 _ rfl; (with_reducible repeat (first | refine kn_' ?_ _ | refine kd_' ?_ | refine ka_' ?_ _)); refine blk_far ?_ NB1123_1137.out _; (with_reducible repeat (first | refine kn_' ?_ _ | refine kd_' ?_ | refine ka_' ?_ _)); refine blk_far ?_ NB1123_1137.out _; (with_reducible repeat (first | refine kn_' ?_ _ | refine kd_' ?_ | refine ka_' ?_ _)); exact BK1123.out) Try.underlying134 rfl (by kernel_rfl)) rfl ?_
          exact ⟨by first | rfl | (simp [errW_none, errW_some] <;> rfl) | (simp [*, errW_none, errW_some] <;> rfl), by repeat (first | (with_reducible first | exact HB.out | apply pa_' | apply pn_' | apply pd_' | refine pt_' ?_ GE1123.out | refine pt_' ?_ GE1126.out | refine pt_' ?_ GE1128.out | refine pt_' ?_ GE1133.out | refine pt_' ?_ GE1137.out) | exact HB.out)⟩
       rw [if_neg c17] at H
       exact absurd H (by simp)
      rw [if_neg c16] at H
      exact absurd H (by simp)
     rw [if_neg c15] at H
     have c15b0 : decide (x26_2 < (l0.length : Int)) = false := decide_eq_false c15
     clear c15
     simp only [Option.some.injEq, Prod.mk.injEq] at H
     obtain ⟨rfl, rfl, rfl⟩ := H
     have hnb95 := NB1126_1123.out
     have hnc95 := NB1123_1126.out
     have hcz96_0 : wr.cell? ⟨gb1126, 0, none⟩ = some (.int .i64 x1127000_2) := (kc_' BK1126.out 0).trans rfl
     have hcz96_1 : wr.cell? ⟨gb1126, 1, none⟩ = some (.int .i64 x1127001_2) := (kc_' BK1126.out 1).trans rfl
     have hfz96_0 := kf_' BK1126.out 0
     have hfz96_1 := kf_' BK1126.out 1
     have hcz97_0 : wr.cell? ⟨gb1123, 0, none⟩ = some (.int .i64 x1124000_2) := (kc_' BK1123.out 0).trans rfl
     have hcz97_1 : wr.cell? ⟨gb1123, 1, none⟩ = some (.int .i64 x1124001_2) := (kc_' BK1123.out 1).trans rfl
     have hfz97_0 := kf_' BK1123.out 0
     have hfz97_1 := kf_' BK1123.out 1
     go_wp2
     refine bodyPost_ret (results_ct rfl _ _ gb1123 134 #[.int .i64 x1127000_2, .int .i64 x1127001_2] (0, 0) _ rfl (by (with_reducible repeat (first | refine kn_' ?_ _ | refine kd_' ?_ | refine ka_' ?_ _)); refine blk_put (cs := #[.int .i64 x1127000_2, .int .i64 x1124001_2]) ?_ 1 _ rfl; (with_reducible repeat (first | refine kn_' ?_ _ | refine kd_' ?_ | refine ka_' ?_ _)); refine blk_put (cs := #[.int .i64 x1124000_2, .int .i64 x1124001_2]) ?_ 0 _ rfl; (with_reducible repeat (first | refine kn_' ?_ _ | refine kd_' ?_ | refine ka_' ?_ _)); exact BK1123.out) Try.underlying134 rfl (by kernel_rfl)) rfl ?_
     exact ⟨by first | rfl | (simp [errW_none, errW_some] <;> rfl) | (simp [*, errW_none, errW_some] <;> rfl), by repeat (first | (with_reducible first | exact HB.out | apply pa_' | apply pn_' | apply pd_' | refine pt_' ?_ GE1123.out | refine pt_' ?_ GE1126.out) | exact HB.out)⟩
end Go.Proofs.Ytiophiipmgpaeaa.F

namespace Go.Proofs.Ytiophiipmgpaeaa.F
open Go.RowKit Go.Proofs.YtiophiipmgpaeaaW.PrintWords Go.Proofs.YtiophiipmgpaeaaW.PrintLast Go.Proofs.YtiophiipmgpaeaaW.PrintMore
attribute [local go_sem] max2_int min2_int max_two min_two max_three min_three max_four min_four
set_option linter.unusedVariables false
set_option linter.unusedSimpArgs false
def impl_Mod.f (a0 : Int) (a1 : Int) : Option (Int) := (impl_InRange.f a1 1 1000000000000).bind fun t1138 => (if t1138 = true then (if a1 = 0 then (none) else (some (Int.tmod (wrap64 ((Int.tmod a0 a1) + a1)) a1))) else (some 0))
set_option maxHeartbeats 8000000 in
set_option maxRecDepth 100000 in
theorem impl_Mod.calls (a0 : Int) (a1 : Int) (r : Int) (w : World) (h : impl_Mod.f a0 a1 = some r) :
  Calls Try.prog 130 #[.int .i64 a0, .int .i64 a1] w fun e w' => e = .returned (.int .i64 r) ∧ Drawn0 w w' := by
 have H : ((impl_InRange.f a1 1 1000000000000).bind fun t1138 => (if t1138 = true then (if a1 = 0 then (none) else (some (Int.tmod (wrap64 ((Int.tmod a0 a1) + a1)) a1))) else (some 0))) = some r := h
 clear h
 replace H := bs_' H
 obtain ⟨t1138, A30, H⟩ := H
 try dsimp only at H
 have A3 := sk_' A30
 clear A30
 by_cases c4 : t1138 = true
 ·
  subst c4
  rw [if_pos rfl] at H
  by_cases c5 : a1 = 0
  ·
   rw [if_pos c5] at H
   exact absurd H (by simp)
  rw [if_neg c5] at H
  have c5b0 : (a1 == 0) = false := beq_eq_false_iff_ne.mpr c5
  have c5b1 : (a1 != 0) = true := bne_iff_ne.mpr c5
  obtain rfl := Option.some.inj H
  go_enter Try.func130, Try.ntmps130
  go_wp2_with (first | ((with_reducible refine xj_' (f := 82) rfl ?_); refine goesL_ (some 6) rfl rfl Try.func82 (by kernel_rfl) rfl #[.int .i64 a1, .int .i64 1, .int .i64 1000000000000] rfl (by (try simp only [xm_', xc_', xn_']); first | done | rfl | (simp only [xd_', xt_']; rfl)) ?_; (with_reducible refine (impl_InRange.calls a1 1 1000000000000 true _ A3.out).mono ?_); rintro e w' ⟨rfl, ⟨nd, rfl⟩⟩; refine ⟨_, rfl, ?_⟩))
  go_ret
  exact ⟨by first | rfl | (simp; done) | (simp [*]; done), by repeat (first | exact Drawn0.refl _ | apply Drawn0.step)⟩
 replace c4 := Bool.eq_false_iff.mpr c4
 subst c4
 rw [if_neg (show ¬ (false = true) by decide)] at H
 obtain rfl := Option.some.inj H
 go_enter Try.func130, Try.ntmps130
 go_wp2_with (first | ((with_reducible refine xj_' (f := 82) rfl ?_); refine goesL_ (some 6) rfl rfl Try.func82 (by kernel_rfl) rfl #[.int .i64 a1, .int .i64 1, .int .i64 1000000000000] rfl (by (try simp only [xm_', xc_', xn_']); first | done | rfl | (simp only [xd_', xt_']; rfl)) ?_; (with_reducible refine (impl_InRange.calls a1 1 1000000000000 false _ A3.out).mono ?_); rintro e w' ⟨rfl, ⟨nd, rfl⟩⟩; refine ⟨_, rfl, ?_⟩))
 go_ret
 exact ⟨by first | rfl | (simp; done) | (simp [*]; done), by repeat (first | exact Drawn0.refl _ | apply Drawn0.step)⟩
end Go.Proofs.Ytiophiipmgpaeaa.F

namespace Go.Proofs.Ytiophiipmgpaeaa.F
open Go.RowKit Go.Proofs.YtiophiipmgpaeaaW.PrintWords Go.Proofs.YtiophiipmgpaeaaW.PrintLast Go.Proofs.YtiophiipmgpaeaaW.PrintMore
attribute [local go_sem] max2_int min2_int max_two min_two max_three min_three max_four min_four
set_option linter.unusedVariables false
set_option linter.unusedSimpArgs false
def impl_FloorRatio.f (k : Nat) (a0_0 : Int) (a0_1 : Int) : Option (Int) := (impl_IsRatio.f k a0_0 a0_1).bind fun t1140 => (if t1140 = true then ((impl_Mod.f a0_0 a0_1).bind fun t1141 => (if a0_1 = 0 then (none) else (some (wrap64 (Int.tdiv (wrap64 (a0_0 - t1141)) a0_1))))) else (some 0))
set_option maxHeartbeats 8000000 in
set_option maxRecDepth 100000 in
theorem impl_FloorRatio.calls (k : Nat) (a0_0 : Int) (a0_1 : Int) (r : Int) (w : World) (h : impl_FloorRatio.f k a0_0 a0_1 = some r) :
  Calls Try.prog 116 #[.agg #[.int .i64 a0_0, .int .i64 a0_1]] w fun e w' => e = .returned (.int .i64 r) ∧ Below w.heap.size w w' := by
 have hu134 := Try.underlying134
 have HB := sk_' (Below.refl w.heap.size w)
 have H : ((impl_IsRatio.f k a0_0 a0_1).bind fun t1140 => (if t1140 = true then ((impl_Mod.f a0_0 a0_1).bind fun t1141 => (if a0_1 = 0 then (none) else (some (wrap64 (Int.tdiv (wrap64 (a0_0 - t1141)) a0_1))))) else (some 0))) = some r := h
 clear h
 replace H := bs_' H
 obtain ⟨t1140, A20, H⟩ := H
 try dsimp only at H
 have A2 := sk_' A20
 clear A20
 by_cases c3 : t1140 = true
 ·
  subst c3
  rw [if_pos rfl] at H
  replace H := bs_' H
  obtain ⟨t1141, A40, H⟩ := H
  try dsimp only at H
  have A4 := sk_' A40
  clear A40
  by_cases c5 : a0_1 = 0
  ·
   rw [if_pos c5] at H
   exact absurd H (by simp)
  rw [if_neg c5] at H
  have c5b0 : (a0_1 == 0) = false := beq_eq_false_iff_ne.mpr c5
  have c5b1 : (a0_1 != 0) = true := bne_iff_ne.mpr c5
  obtain rfl := Option.some.inj H
  go_enter Try.func116, Try.ntmps116
  go_wp2_with (first | ((with_reducible refine gate_dst (N := 1) rfl ?_); refine box_event ?hg (N := 1) ?hd (cs := #[.int .i64 a0_0, .int .i64 a0_1]) (t := 134) ?hr ?_; (case hd => rfl); (case hg => rfl); (case hr => first | (go_simp; done) | (go_simp; rfl)); intro gb1139 hg w6 hbox hb; have n0_ := sk_' (pp_' (bm HB) hb); have n1_ := sk_' (hbox); have n2_ := sk_' ((by rw [hg]; exact (ps_' (bm HB)) : w.heap.size ≤ gb1139)); have n3_ := sk_' ((by rw [hg]; exact (ps_' (bm HB)) : w.heap.size ≤ gb1139)); clear HB; have HB := n0_; have BK1139 := n1_; have GW1139 := n2_; have GE1139 := n3_; clear n0_ n1_ n2_ n3_; clear hb hbox hg; have hcz7_0 : w6.cell? ⟨gb1139, 0, none⟩ = some (.int .i64 a0_0) := (kc_' BK1139.out 0).trans rfl; have hcz7_1 : w6.cell? ⟨gb1139, 1, none⟩ = some (.int .i64 a0_1) := (kc_' BK1139.out 1).trans rfl; have hfz7_0 := kf_' BK1139.out 0; have hfz7_1 := kf_' BK1139.out 1) | (go_at_call 154; (with_reducible refine (impl_IsRatio.calls k a0_0 a0_1 true _ A2.out).mono ?_); rintro e w8 ⟨rfl, hb⟩; have n0_ := sk_' (blk_below (g := gb1139) (o := .cells #[.int .i64 a0_0, .int .i64 a0_1] 134 (0, 0)) (km BK1139) hb); have n1_ := sk_' (pp_' (bm HB) hb); clear BK1139; clear HB; have BK1139 := n0_; have HB := n1_; clear n0_ n1_; (try clear hb); (try clear hb2); (try clear hk); (try clear hi); have hcz9_0 : w8.cell? ⟨gb1139, 0, none⟩ = some (.int .i64 a0_0) := (kc_' BK1139.out 0).trans rfl; have hcz9_1 : w8.cell? ⟨gb1139, 1, none⟩ = some (.int .i64 a0_1) := (kc_' BK1139.out 1).trans rfl; have hfz9_0 := kf_' BK1139.out 0; have hfz9_1 := kf_' BK1139.out 1) | (go_at_call 130; (with_reducible refine (impl_Mod.calls a0_0 a0_1 t1141 _ A4.out).mono ?_); rintro e w' ⟨rfl, ⟨nd, rfl⟩⟩; (try first | exact ⟨rfl, _, World.drewN_drewN _ _ _⟩ | exact ⟨rfl, _, Eq.trans (World.drewN_drewN _ _ _) (congrArg (World.drewN _) (Nat.add_assoc _ _ _))⟩)))
  repeat (go_quiet (first | ((with_reducible refine gate_dst (N := 1) rfl ?_); refine box_event ?hg (N := 1) ?hd (cs := #[.int .i64 a0_0, .int .i64 a0_1]) (t := 134) ?hr ?_; (case hd => rfl); (case hg => rfl); (case hr => first | (go_simp; done) | (go_simp; rfl)); intro gb1139 hg w6 hbox hb; have n0_ := sk_' (pp_' (bm HB) hb); have n1_ := sk_' (hbox); have n2_ := sk_' ((by rw [hg]; exact (ps_' (bm HB)) : w.heap.size ≤ gb1139)); have n3_ := sk_' ((by rw [hg]; exact (ps_' (bm HB)) : w.heap.size ≤ gb1139)); clear HB; have HB := n0_; have BK1139 := n1_; have GW1139 := n2_; have GE1139 := n3_; clear n0_ n1_ n2_ n3_; clear hb hbox hg; have hcz7_0 : w6.cell? ⟨gb1139, 0, none⟩ = some (.int .i64 a0_0) := (kc_' BK1139.out 0).trans rfl; have hcz7_1 : w6.cell? ⟨gb1139, 1, none⟩ = some (.int .i64 a0_1) := (kc_' BK1139.out 1).trans rfl; have hfz7_0 := kf_' BK1139.out 0; have hfz7_1 := kf_' BK1139.out 1) | (go_at_call 154; (with_reducible refine (impl_IsRatio.calls k a0_0 a0_1 true _ A2.out).mono ?_); rintro e w8 ⟨rfl, hb⟩; have n0_ := sk_' (blk_below (g := gb1139) (o := .cells #[.int .i64 a0_0, .int .i64 a0_1] 134 (0, 0)) (km BK1139) hb); have n1_ := sk_' (pp_' (bm HB) hb); clear BK1139; clear HB; have BK1139 := n0_; have HB := n1_; clear n0_ n1_; (try clear hb); (try clear hb2); (try clear hk); (try clear hi); have hcz9_0 : w8.cell? ⟨gb1139, 0, none⟩ = some (.int .i64 a0_0) := (kc_' BK1139.out 0).trans rfl; have hcz9_1 : w8.cell? ⟨gb1139, 1, none⟩ = some (.int .i64 a0_1) := (kc_' BK1139.out 1).trans rfl; have hfz9_0 := kf_' BK1139.out 0; have hfz9_1 := kf_' BK1139.out 1) | (go_at_call 130; (with_reducible refine (impl_Mod.calls a0_0 a0_1 t1141 _ A4.out).mono ?_); rintro e w' ⟨rfl, ⟨nd, rfl⟩⟩; (try first | exact ⟨rfl, _, World.drewN_drewN _ _ _⟩ | exact ⟨rfl, _, Eq.trans (World.drewN_drewN _ _ _) (congrArg (World.drewN _) (Nat.add_assoc _ _ _))⟩))); try go_wp2_with (first | ((with_reducible refine gate_dst (N := 1) rfl ?_); refine box_event ?hg (N := 1) ?hd (cs := #[.int .i64 a0_0, .int .i64 a0_1]) (t := 134) ?hr ?_; (case hd => rfl); (case hg => rfl); (case hr => first | (go_simp; done) | (go_simp; rfl)); intro gb1139 hg w6 hbox hb; have n0_ := sk_' (pp_' (bm HB) hb); have n1_ := sk_' (hbox); have n2_ := sk_' ((by rw [hg]; exact (ps_' (bm HB)) : w.heap.size ≤ gb1139)); have n3_ := sk_' ((by rw [hg]; exact (ps_' (bm HB)) : w.heap.size ≤ gb1139)); clear HB; have HB := n0_; have BK1139 := n1_; have GW1139 := n2_; have GE1139 := n3_; clear n0_ n1_ n2_ n3_; clear hb hbox hg; have hcz7_0 : w6.cell? ⟨gb1139, 0, none⟩ = some (.int .i64 a0_0) := (kc_' BK1139.out 0).trans rfl; have hcz7_1 : w6.cell? ⟨gb1139, 1, none⟩ = some (.int .i64 a0_1) := (kc_' BK1139.out 1).trans rfl; have hfz7_0 := kf_' BK1139.out 0; have hfz7_1 := kf_' BK1139.out 1) | (go_at_call 154; (with_reducible refine (impl_IsRatio.calls k a0_0 a0_1 true _ A2.out).mono ?_); rintro e w8 ⟨rfl, hb⟩; have n0_ := sk_' (blk_below (g := gb1139) (o := .cells #[.int .i64 a0_0, .int .i64 a0_1] 134 (0, 0)) (km BK1139) hb); have n1_ := sk_' (pp_' (bm HB) hb); clear BK1139; clear HB; have BK1139 := n0_; have HB := n1_; clear n0_ n1_; (try clear hb); (try clear hb2); (try clear hk); (try clear hi); have hcz9_0 : w8.cell? ⟨gb1139, 0, none⟩ = some (.int .i64 a0_0) := (kc_' BK1139.out 0).trans rfl; have hcz9_1 : w8.cell? ⟨gb1139, 1, none⟩ = some (.int .i64 a0_1) := (kc_' BK1139.out 1).trans rfl; have hfz9_0 := kf_' BK1139.out 0; have hfz9_1 := kf_' BK1139.out 1) | (go_at_call 130; (with_reducible refine (impl_Mod.calls a0_0 a0_1 t1141 _ A4.out).mono ?_); rintro e w' ⟨rfl, ⟨nd, rfl⟩⟩; (try first | exact ⟨rfl, _, World.drewN_drewN _ _ _⟩ | exact ⟨rfl, _, Eq.trans (World.drewN_drewN _ _ _) (congrArg (World.drewN _) (Nat.add_assoc _ _ _))⟩))))
  go_ret
  exact ⟨rfl, bm HB⟩
 replace c3 := Bool.eq_false_iff.mpr c3
 subst c3
 rw [if_neg (show ¬ (false = true) by decide)] at H
 obtain rfl := Option.some.inj H
 go_enter Try.func116, Try.ntmps116
 go_wp2_with (first | ((with_reducible refine gate_dst (N := 1) rfl ?_); refine box_event ?hg (N := 1) ?hd (cs := #[.int .i64 a0_0, .int .i64 a0_1]) (t := 134) ?hr ?_; (case hd => rfl); (case hg => rfl); (case hr => first | (go_simp; done) | (go_simp; rfl)); intro gb1139 hg w10 hbox hb; have n0_ := sk_' (pp_' (bm HB) hb); have n1_ := sk_' (hbox); have n2_ := sk_' ((by rw [hg]; exact (ps_' (bm HB)) : w.heap.size ≤ gb1139)); have n3_ := sk_' ((by rw [hg]; exact (ps_' (bm HB)) : w.heap.size ≤ gb1139)); clear HB; have HB := n0_; have BK1139 := n1_; have GW1139 := n2_; have GE1139 := n3_; clear n0_ n1_ n2_ n3_; clear hb hbox hg; have hcz11_0 : w10.cell? ⟨gb1139, 0, none⟩ = some (.int .i64 a0_0) := (kc_' BK1139.out 0).trans rfl; have hcz11_1 : w10.cell? ⟨gb1139, 1, none⟩ = some (.int .i64 a0_1) := (kc_' BK1139.out 1).trans rfl; have hfz11_0 := kf_' BK1139.out 0; have hfz11_1 := kf_' BK1139.out 1) | (go_at_call 154; (with_reducible refine (impl_IsRatio.calls k a0_0 a0_1 false _ A2.out).mono ?_); rintro e w12 ⟨rfl, hb⟩; have n0_ := sk_' (blk_below (g := gb1139) (o := .cells #[.int .i64 a0_0, .int .i64 a0_1] 134 (0, 0)) (km BK1139) hb); have n1_ := sk_' (pp_' (bm HB) hb); clear BK1139; clear HB; have BK1139 := n0_; have HB := n1_; clear n0_ n1_; (try clear hb); (try clear hb2); (try clear hk); (try clear hi)))
 repeat (go_quiet (first | ((with_reducible refine gate_dst (N := 1) rfl ?_); refine box_event ?hg (N := 1) ?hd (cs := #[.int .i64 a0_0, .int .i64 a0_1]) (t := 134) ?hr ?_; (case hd => rfl); (case hg => rfl); (case hr => first | (go_simp; done) | (go_simp; rfl)); intro gb1139 hg w10 hbox hb; have n0_ := sk_' (pp_' (bm HB) hb); have n1_ := sk_' (hbox); have n2_ := sk_' ((by rw [hg]; exact (ps_' (bm HB)) : w.heap.size ≤ gb1139)); have n3_ := sk_' ((by rw [hg]; exact (ps_' (bm HB)) : w.heap.size ≤ gb1139)); clear HB; have HB := n0_; have BK1139 := n1_; have GW1139 := n2_; have GE1139 := n3_; clear n0_ n1_ n2_ n3_; clear hb hbox hg; have hcz11_0 : w10.cell? ⟨gb1139, 0, none⟩ = some (.int .i64 a0_0) := (kc_' BK1139.out 0).trans rfl; have hcz11_1 : w10.cell? ⟨gb1139, 1, none⟩ = some (.int .i64 a0_1) := (kc_' BK1139.out 1).trans rfl; have hfz11_0 := kf_' BK1139.out 0; have hfz11_1 := kf_' BK1139.out 1) | (go_at_call 154; (with_reducible refine (impl_IsRatio.calls k a0_0 a0_1 false _ A2.out).mono ?_); rintro e w12 ⟨rfl, hb⟩; have n0_ := sk_' (blk_below (g := gb1139) (o := .cells #[.int .i64 a0_0, .int .i64 a0_1] 134 (0, 0)) (km BK1139) hb); have n1_ := sk_' (pp_' (bm HB) hb); clear BK1139; clear HB; have BK1139 := n0_; have HB := n1_; clear n0_ n1_; (try clear hb); (try clear hb2); (try clear hk); (try clear hi))); try go_wp2_with (first | ((with_reducible refine gate_dst (N := 1) rfl ?_); refine box_event ?hg (N := 1) ?hd (cs := #[.int .i64 a0_0, .int .i64 a0_1]) (t := 134) ?hr ?_; (case hd => rfl); (case hg => rfl); (case hr => first | (go_simp; done) | (go_simp; rfl)); intro gb1139 hg w10 hbox hb; have n0_ := sk_' (pp_' (bm HB) hb); have n1_ := sk_' (hbox); have n2_ := sk_' ((by rw [hg]; exact (ps_' (bm HB)) : w.heap.size ≤ gb1139)); have n3_ := sk_' ((by rw [hg]; exact (ps_' (bm HB)) : w.heap.size ≤ gb1139)); clear HB; have HB := n0_; have BK1139 := n1_; have GW1139 := n2_; have GE1139 := n3_; clear n0_ n1_ n2_ n3_; clear hb hbox hg; have hcz11_0 : w10.cell? ⟨gb1139, 0, none⟩ = some (.int .i64 a0_0) := (kc_' BK1139.out 0).trans rfl; have hcz11_1 : w10.cell? ⟨gb1139, 1, none⟩ = some (.int .i64 a0_1) := (kc_' BK1139.out 1).trans rfl; have hfz11_0 := kf_' BK1139.out 0; have hfz11_1 := kf_' BK1139.out 1) | (go_at_call 154; (with_reducible refine (impl_IsRatio.calls k a0_0 a0_1 false _ A2.out).mono ?_); rintro e w12 ⟨rfl, hb⟩; have n0_ := sk_' (blk_below (g := gb1139) (o := .cells #[.int .i64 a0_0, .int .i64 a0_1] 134 (0, 0)) (km BK1139) hb); have n1_ := sk_' (pp_' (bm HB) hb); clear BK1139; clear HB; have BK1139 := n0_; have HB := n1_; clear n0_ n1_; (try clear hb); (try clear hb2); (try clear hk); (try clear hi))))
 go_ret
 exact ⟨rfl, bm HB⟩
end Go.Proofs.Ytiophiipmgpaeaa.F

namespace Go.Proofs.Ytiophiipmgpaeaa.F
open Go.RowKit Go.Proofs.YtiophiipmgpaeaaW.PrintWords Go.Proofs.YtiophiipmgpaeaaW.PrintLast Go.Proofs.YtiophiipmgpaeaaW.PrintMore
attribute [local go_sem] max2_int min2_int max_two min_two max_three min_three max_four min_four
set_option linter.unusedVariables false
set_option linter.unusedSimpArgs false
def GrewW (w w1 : World) : Prop := ∃ q os, w1 = Go.Sort.grow (w.drewN q) os
theorem GrewW.refl (w : World) : GrewW w w := ⟨0, #[], by simp [Go.Sort.grow]; rfl⟩
theorem GrewW.drewN {w w1 : World} (h : GrewW w w1) (n : Nat) : GrewW w (w1.drewN n) := by
 obtain ⟨q, os, rfl⟩ := h
 exact ⟨q + n, os, by rw [← World.drewN_drewN]; rfl⟩
theorem GrewW.alloc {w w1 : World} (h : GrewW w w1) (o : Obj) : GrewW w (w1.alloc o) := by
 obtain ⟨q, os, rfl⟩ := h
 exact ⟨q, os ++ #[o], by rw [Go.Sort.alloc_eq_grow, Go.Sort.grow_grow]⟩
def cmI (a b : Int) : Int := if a < b then -1 else if b < a then 1 else 0
def cfP (x y : S109) : Int := if cmI x.f0 y.f0 = 0 then cmI x.f1 y.f1 else cmI x.f0 y.f0
theorem cmp_Compare_int.cm (a b : Int) : cmp_Compare_int.f a b = some (cmI a b) := by
 unfold cmp_Compare_int.f cmI cmp_isNaN_int.f
 simp
 repeat' split
 all_goals simp_all
theorem cmp_Or_int.cm (x y : Int) : cmp_Or_int.f 4 [x, y] = some (if x = 0 then y else x) := by
 simp [cmp_Or_int.f, cmp_Or_int.l0, rd, wrap64]
 repeat' split
 all_goals simp_all
set_option maxHeartbeats 8000000 in
set_option maxRecDepth 100000 in
theorem so_cmp (x y : S109) (w : World) : Calls Try.prog 156 #[.agg #[.int .i64 x.f0, .int .i64 x.f1], .agg #[.int .i64 y.f0, .int .i64 y.f1]] w fun e w' => e = .returned (.int .i64 (cfP x y)) ∧ GrewW w w' := by
 have hu_ := Try.underlying109
 obtain ⟨t1, ht1⟩ : ∃ t, cmp_Compare_int.f x.f0 y.f0 = some t := ⟨_, cmp_Compare_int.cm _ _⟩
 obtain ⟨t2, ht2⟩ : ∃ t, cmp_Compare_int.f x.f1 y.f1 = some t := ⟨_, cmp_Compare_int.cm _ _⟩
 obtain ⟨t3, ht3⟩ : ∃ t, cmp_Or_int.f 4 [t1, t2] = some t := ⟨_, cmp_Or_int.cm _ _⟩
 have hr3 : t3 = cfP x y := by
  rw [cmp_Compare_int.cm] at ht1 ht2
  rw [cmp_Or_int.cm] at ht3
  obtain rfl := Option.some.inj ht1
  obtain rfl := Option.some.inj ht2
  exact (Option.some.inj ht3).symm
 have A1 := sk_' ht1
 have A2 := sk_' ht2
 have A3 := sk_' ht3
 clear ht1 ht2 ht3
 have HG : Aside0 (GrewW w (((w.alloc (Obj.cells #[Value.int IntKind.i64 x.f0, Value.int IntKind.i64 x.f1] 109)).alloc (Obj.cells #[Value.int IntKind.i64 y.f0, Value.int IntKind.i64 y.f1] 109)).drew)) := ⟨(((GrewW.refl w).alloc _).alloc _).drewN 1⟩
 have BK1 : Aside0 ((((w.alloc (Obj.cells #[Value.int IntKind.i64 x.f0, Value.int IntKind.i64 x.f1] 109)).alloc (Obj.cells #[Value.int IntKind.i64 y.f0, Value.int IntKind.i64 y.f1] 109)).drew).heap[w.heap.size]? = some (Obj.cells #[Value.int IntKind.i64 x.f0, Value.int IntKind.i64 x.f1] 109 (0, 0))) := ⟨kd_' (ka_' (heap_alloc_new w _) _)⟩
 have BK2 : Aside0 ((((w.alloc (Obj.cells #[Value.int IntKind.i64 x.f0, Value.int IntKind.i64 x.f1] 109)).alloc (Obj.cells #[Value.int IntKind.i64 y.f0, Value.int IntKind.i64 y.f1] 109)).drew).heap[w.heap.size + 1]? = some (Obj.cells #[Value.int IntKind.i64 y.f0, Value.int IntKind.i64 y.f1] 109 (0, 0))) := ⟨kd_' (by have h_ := heap_alloc_new (w.alloc (Obj.cells #[Value.int IntKind.i64 x.f0, Value.int IntKind.i64 x.f1] 109)) (Obj.cells #[Value.int IntKind.i64 y.f0, Value.int IntKind.i64 y.f1] 109); rwa [show (w.alloc (Obj.cells #[Value.int IntKind.i64 x.f0, Value.int IntKind.i64 x.f1] 109)).heap.size = w.heap.size + 1 from by unfold World.alloc; exact Array.size_push _] at h_)⟩
 have HR3 := sk_' hr3
 clear hr3
 go_enter Try.func156, Try.ntmps156
 go_wp2
 refine start_ (n := 13) (S := fun w' => w'.cell? ⟨w.heap.size, 0, none⟩ = some (.int .i64 x.f0) ∧ w'.cell? ⟨w.heap.size, 1, none⟩ = some (.int .i64 x.f1) ∧ w'.cell? ⟨w.heap.size + 1, 0, none⟩ = some (.int .i64 y.f0) ∧ w'.cell? ⟨w.heap.size + 1, 1, none⟩ = some (.int .i64 y.f1)) (ds := []) #[false, false, false, false, false, false, false, false, false, false, false, false, false] (by kernel_rfl) rfl rfl ⟨(kc_' BK1.out 0).trans rfl, (kc_' BK1.out 1).trans rfl, (kc_' BK2.out 0).trans rfl, (kc_' BK2.out 1).trans rfl⟩ (fun hHeld => ?_)
 generalize ((w.alloc (Obj.cells #[Value.int IntKind.i64 x.f0, Value.int IntKind.i64 x.f1] 109)).alloc (Obj.cells #[Value.int IntKind.i64 y.f0, Value.int IntKind.i64 y.f1] 109)).drew = w9 at HG BK1 BK2 hHeld ⊢
 refine pure_ (i := 0) (N := some 5) (v := ?_) (a' := ?_) #[true, false, false, false, false, false, false, false, false, false, false, false, false] rfl rfl (by kernel_rfl) (fun _ _ _ h => h) (Or.inl ⟨by rfl, ?_⟩) ?_ ?_
 rotate_left
 ·
  intro w'
  go_simp
  with_reducible rfl
 rotate_left
 ·
  simp only [Act.put, sa_', sz_', sc_', i64_w, i32_w]
  rfl
 refine pure_ (i := 2) (N := some 7) (v := ?_) (a' := ?_) #[true, false, true, false, false, false, false, false, false, false, false, false, false] rfl rfl (by kernel_rfl) (fun _ _ _ h => h) (Or.inl ⟨by rfl, ?_⟩) ?_ ?_
 rotate_left
 ·
  intro w'
  go_simp
  with_reducible rfl
 rotate_left
 ·
  simp only [Act.put, sa_', sz_', sc_', i64_w, i32_w]
  rfl
 refine pure_ (i := 5) (N := some 10) (v := ?_) (a' := ?_) #[true, false, true, false, false, true, false, false, false, false, false, false, false] rfl rfl (by kernel_rfl) (fun _ _ _ h => h) (Or.inl ⟨by rfl, ?_⟩) ?_ ?_
 rotate_left
 ·
  intro w'
  go_simp
  with_reducible rfl
 rotate_left
 ·
  simp only [Act.put, sa_', sz_', sc_', i64_w, i32_w]
  rfl
 refine pure_ (i := 7) (N := some 12) (v := ?_) (a' := ?_) #[true, false, true, false, false, true, false, true, false, false, false, false, false] rfl rfl (by kernel_rfl) (fun _ _ _ h => h) (Or.inl ⟨by rfl, ?_⟩) ?_ ?_
 rotate_left
 ·
  intro w'
  go_simp
  with_reducible rfl
 rotate_left
 ·
  simp only [Act.put, sa_', sz_', sc_', i64_w, i32_w]
  rfl
 refine take_ (i := 1) (N := some 6) (v := ?_) (a' := ?_) #[true, true, true, false, false, true, false, true, false, false, false, false, false] rfl rfl (by kernel_rfl) (fun _ _ _ h => h) (Or.inl ⟨by rfl, ?_⟩) hHeld ?_ ?_
 rotate_left
 ·
  rintro w' ⟨s0, s1, s2, s3⟩
  go_simp
  with_reducible rfl
 rotate_left
 ·
  simp only [Act.put, sa_', sz_', sc_', i64_w, i32_w]
  rfl
 refine take_ (i := 3) (N := some 8) (v := ?_) (a' := ?_) #[true, true, true, true, false, true, false, true, false, false, false, false, false] rfl rfl (by kernel_rfl) (fun _ _ _ h => h) (Or.inl ⟨by rfl, ?_⟩) hHeld ?_ ?_
 rotate_left
 ·
  rintro w' ⟨s0, s1, s2, s3⟩
  go_simp
  with_reducible rfl
 rotate_left
 ·
  simp only [Act.put, sa_', sz_', sc_', i64_w, i32_w]
  rfl
 refine take_ (i := 6) (N := some 11) (v := ?_) (a' := ?_) #[true, true, true, true, false, true, true, true, false, false, false, false, false] rfl rfl (by kernel_rfl) (fun _ _ _ h => h) (Or.inl ⟨by rfl, ?_⟩) hHeld ?_ ?_
 rotate_left
 ·
  rintro w' ⟨s0, s1, s2, s3⟩
  go_simp
  with_reducible rfl
 rotate_left
 ·
  simp only [Act.put, sa_', sz_', sc_', i64_w, i32_w]
  rfl
 refine take_ (i := 8) (N := some 13) (v := ?_) (a' := ?_) #[true, true, true, true, false, true, true, true, true, false, false, false, false] rfl rfl (by kernel_rfl) (fun _ _ _ h => h) (Or.inl ⟨by rfl, ?_⟩) hHeld ?_ ?_
 rotate_left
 ·
  rintro w' ⟨s0, s1, s2, s3⟩
  go_simp
  with_reducible rfl
 rotate_left
 ·
  simp only [Act.put, sa_', sz_', sc_', i64_w, i32_w]
  rfl
 refine one_ (i := 4) (N := some 9) #[true, true, true, true, true, true, true, true, true, false, false, false, false] rfl rfl (by kernel_rfl) (by decide) (fun K hK => ?_)
 refine goes_ Try.func158 (by kernel_rfl) rfl #[.int .i64 x.f0, .int .i64 y.f0] (by rfl) rfl rfl (by (try simp only [xm_', xc_', xn_']); first | done | rfl) ?_
 with_reducible refine (cmp_Compare_int.calls x.f0 y.f0 t1 _ A1.out).mono ?_
 rintro e w' ⟨rfl, ⟨nd1, rfl⟩⟩
 refine ⟨_, rfl, ?_⟩
 refine hK.out _ _ ⟨(kc_' BK1.out 0).trans rfl, (kc_' BK1.out 1).trans rfl, (kc_' BK2.out 0).trans rfl, (kc_' BK2.out 1).trans rfl⟩ (fun hHeld => ?_)
 clear hK K
 refine norm_ (a' := ?_) ?_ ?_
 rotate_left
 ·
  show Act.put _ (some 9) _ = _
  simp only [Act.put, sa_', sz_', sc_', i64_w, i32_w]
  rfl
 refine one_ (i := 9) (N := some 14) #[true, true, true, true, true, true, true, true, true, true, false, false, false] rfl rfl (by kernel_rfl) (by decide) (fun K hK => ?_)
 refine goes_ Try.func158 (by kernel_rfl) rfl #[.int .i64 x.f1, .int .i64 y.f1] (by rfl) rfl rfl (by (try simp only [xm_', xc_', xn_']); first | done | rfl) ?_
 with_reducible refine (cmp_Compare_int.calls x.f1 y.f1 t2 _ A2.out).mono ?_
 rintro e w' ⟨rfl, ⟨nd2, rfl⟩⟩
 refine ⟨_, rfl, ?_⟩
 refine hK.out _ _ ⟨(kc_' BK1.out 0).trans rfl, (kc_' BK1.out 1).trans rfl, (kc_' BK2.out 0).trans rfl, (kc_' BK2.out 1).trans rfl⟩ (fun hHeld => ?_)
 clear hK K
 refine norm_ (a' := ?_) ?_ ?_
 rotate_left
 ·
  show Act.put _ (some 14) _ = _
  simp only [Act.put, sa_', sz_', sc_', i64_w, i32_w]
  rfl
 refine one_ (i := 10) (N := some 15) #[true, true, true, true, true, true, true, true, true, true, true, false, false] rfl rfl (by kernel_rfl) (by decide) (fun K hK => ?_)
 refine event_step (v := .slice (some ⟨((w9.drewN nd1).drewN nd2).heap.size, 0, none⟩) [t1, t2].length 2) (w1 := ((w9.drewN nd1).drewN nd2).alloc (.cells #[.int .i64 t1, .int .i64 t2] 3)) (by rfl) ?hr ?_
 (case hr => first | (go_simp; done) | (go_simp; rfl))
 have hown := World.ownsRow_lit (base := 0) (e := 3) (size := 1) ((w9.drewN nd1).drewN nd2) #[.int .i64 t1, .int .i64 t2] 2 (Nat.zero_le _) (by decide) rfl
 have HO : Aside0 (Kd.R (Kd.int .i64) 3 (((w9.drewN nd1).drewN nd2).alloc (.cells #[.int .i64 t1, .int .i64 t2] 3)) 0 (fun _ => True) (.slice (some ⟨((w9.drewN nd1).drewN nd2).heap.size, 0, none⟩) [t1, t2].length 2) [t1, t2]) := ⟨Kd.R_of_own hown (fun _ _ => trivial)⟩
 have HG2 : Aside0 (GrewW w (((w9.drewN nd1).drewN nd2).alloc (.cells #[.int .i64 t1, .int .i64 t2] 3))) := ⟨((HG.out.drewN nd1).drewN nd2).alloc _⟩
 have n1_ := sk_' (ka_' (kn_' (kn_' BK1.out nd1) nd2) (.cells #[.int .i64 t1, .int .i64 t2] 3))
 have n2_ := sk_' (ka_' (kn_' (kn_' BK2.out nd1) nd2) (.cells #[.int .i64 t1, .int .i64 t2] 3))
 clear BK1 BK2 hown HG
 have BK1 := n1_
 have BK2 := n2_
 clear n1_ n2_
 refine hK.out _ _ ⟨(kc_' BK1.out 0).trans rfl, (kc_' BK1.out 1).trans rfl, (kc_' BK2.out 0).trans rfl, (kc_' BK2.out 1).trans rfl⟩ (fun hHeld => ?_)
 clear hK K
 refine norm_ (a' := ?_) ?_ ?_
 rotate_left
 ·
  show Act.put _ (some 15) _ = _
  simp only [Act.put, sa_', sz_', sc_', i64_w, i32_w]
  rfl
 generalize ((w9.drewN nd1).drewN nd2).alloc (.cells #[.int .i64 t1, .int .i64 t2] 3) = w10 at BK1 BK2 HO HG2 hHeld ⊢
 generalize ((w9.drewN nd1).drewN nd2).heap.size = gs at HO ⊢
 refine one_ (i := 11) (N := some 16) #[true, true, true, true, true, true, true, true, true, true, true, true, false] rfl rfl (by kernel_rfl) (by decide) (fun K hK => ?_)
 refine goes_ Try.func157 (by kernel_rfl) rfl #[.slice (some ⟨gs, 0, none⟩) [t1, t2].length 2] (by rfl) rfl rfl (by (try simp only [xm_', xc_', xn_']); first | done | rfl) ?_
 with_reducible refine (cmp_Or_int.calls 4 _ _ [t1, t2] t3 _ ?side1 ?side2 A3.out).mono ?_
 (case side1 => exact (xr_' HO.out).2.2)
 (case side2 => exact (xr_' HO.out).2.1)
 rintro e w' ⟨rfl, ⟨nd3, rfl⟩⟩
 refine ⟨_, rfl, ?_⟩
 refine hK.out _ _ ⟨(kc_' BK1.out 0).trans rfl, (kc_' BK1.out 1).trans rfl, (kc_' BK2.out 0).trans rfl, (kc_' BK2.out 1).trans rfl⟩ (fun hHeld => ?_)
 clear hK K
 refine norm_ (a' := ?_) ?_ ?_
 rotate_left
 ·
  show Act.put _ (some 16) _ = _
  simp only [Act.put, sa_', sz_', sc_', i64_w, i32_w]
  rfl
 refine pure_ (i := 12) (N := some 4) (v := ?_) (a' := ?_) #[true, true, true, true, true, true, true, true, true, true, true, true, true] rfl rfl (by kernel_rfl) (fun _ _ _ h => h) (Or.inl ⟨by rfl, ?_⟩) ?_ ?_
 rotate_left
 ·
  intro w'
  go_simp
  with_reducible rfl
 rotate_left
 ·
  simp only [Act.put, sa_', sz_', sc_', i64_w, i32_w]
  rfl
 refine done_ (by kernel_rfl) ?_
 try go_wp2
 go_ret
 exact ⟨by rw [← HR3.out]; first | rfl | (simp [errW_none, errW_some] <;> rfl), HG2.out.drewN nd3⟩
section
open Go.Sort (putRow putCells grow flatK get_flatK)
open Go.Proofs (ltOf)
def cells2 (y : S109) : List Value := [.int .i64 y.f0, .int .i64 y.f1]
theorem flat2_len : ∀ x : List S109, (x.flatMap cells2).length = x.length * 2
 | [] => rfl
 | y :: x => by rw [List.flatMap_cons, List.length_append, flat2_len x, List.length_cons, Nat.succ_mul, Nat.add_comm]; rfl
theorem flat2_get : ∀ (x : List S109) (q : Nat), (x.flatMap cells2)[q]? = (x[q / 2]?).bind (fun y => (cells2 y)[q % 2]?)
 | [], q => by simp
 | y :: x, q => by
  rw [List.flatMap_cons, List.getElem?_append]
  by_cases h : q < 2
  ·
   rw [if_pos (by exact h), Nat.div_eq_of_lt h, Nat.mod_eq_of_lt h]
   rfl
  have e1 : q / 2 = (q - 2) / 2 + 1 := by omega
  have e2 : q % 2 = (q - 2) % 2 := by omega
  rw [if_neg (by exact h), e1, e2, List.getElem?_cons_succ]
  exact flat2_get x (q - 2)
theorem flat2_drop : ∀ (j : Nat) (x : List S109), (x.drop j).flatMap cells2 = (x.flatMap cells2).drop (j * 2)
 | 0, x => by simp
 | j + 1, [] => by simp
 | j + 1, y :: x => by
  rw [List.drop_succ_cons, flat2_drop j x, List.flatMap_cons, show (j + 1) * 2 = 2 + j * 2 by omega]
  rw [← List.drop_drop]
  rfl
theorem R_all2 {base go cap n : Nat} {W : World} {x : List S109} (h : Kd.R k109 109 W base (fun _ => True) (.slice (some ⟨go, 0, none⟩) n cap) x) (q : Nat) (u : Value) (hq : (x.flatMap cells2)[q]? = some u) : W.cell? ⟨go, q, none⟩ = some u := by
 have hn := (xr_' h).1
 have hlt : q < x.length * 2 := by
  rw [← flat2_len x]
  exact (List.getElem?_eq_some_iff.1 hq).1
 obtain ⟨ce, hcl, hM, hcc, hfr⟩ := Kd.R_elem h (⟨0, 0⟩ : S109) ((q / 2 : Nat) : Int) (by omega) (by omega)
 obtain rfl := k109_openM hM
 rw [Int.toNat_natCast] at hcc
 rw [flat2_get, List.getElem?_eq_getElem (show q / 2 < x.length by omega)] at hq
 have e : x.getD (q / 2) (⟨0, 0⟩ : S109) = x[q / 2] := by rw [List.getD_eq_getElem?_getD, List.getElem?_eq_getElem (show q / 2 < x.length by omega)]; rfl
 rw [e] at hcc
 have h1 := hcc (q % 2) u hq
 have e2 : q / 2 * k109.sz + q % 2 = q := by show q / 2 * 2 + q % 2 = q; omega
 rwa [e2] at h1
theorem R_mk2 {base go cap : Nat} {W : World} {x : List S109} (cur : Array Value) (hh : W.heap[go]? = some (.cells cur 109 (0, 0))) (hb : base ≤ go) (hc : x.length ≤ cap) (hm : cap ≤ maxLen) (hs : cur.size = cap * 2) (ht : cur.toList.take (x.length * 2) = x.flatMap cells2) :
  Kd.R k109 109 W base (fun _ => True) (.slice (some ⟨go, 0, none⟩) x.length cap) x := by
 refine ⟨fun _ _ => trivial, x.flatMap cells2, ⟨flat2_len x, .inr ⟨go, cap, cur, rfl, hb, hh, hc, hm, hs, ht⟩⟩, flat2_len x, fun j p hj => ?_⟩
 have e : ((x.flatMap cells2).drop (j * k109.sz)).take k109.sz = cells2 p := by
  show ((x.flatMap cells2).drop (j * 2)).take 2 = cells2 p
  rw [← flat2_drop]
  obtain ⟨hjl, rfl⟩ := List.getElem?_eq_some_iff.1 hj
  rw [List.drop_eq_getElem_cons hjl, List.flatMap_cons]
  rfl
 rw [e]
 exact k109_mkM W base _ p
instance : Inhabited S109 := ⟨⟨0, 0⟩⟩
theorem flatK2 (x : List S109) : flatK cells2 2 x.toArray = (x.flatMap cells2).toArray := by
 apply Go.Sort.ext_get!
 ·
  rw [Go.Sort.size_flatK]; simp only [List.size_toArray, flat2_len]
 intro t ht
 have ht' : t < x.length * 2 := by simpa using ht
 rw [get_flatK _ _ _ _ (by simpa using ht')]
 have h1 : t / 2 < x.length := by omega
 have h2 := flat2_get x t
 rw [List.getElem?_eq_getElem h1] at h2
 have h3 : (x.flatMap cells2).toArray[t]! = ((x.flatMap cells2)[t]?).getD default := by simp [getElem!_def]; cases (x.flatMap cells2)[t]? <;> rfl
 rw [h3, h2]
 have h4 : x.toArray[t / 2]! = x[t / 2] := by simp [getElem!_pos, h1]
 rw [h4]
 simp [getElem!_def]
 cases (cells2 x[t / 2])[t % 2]? <;> rfl
theorem cmI_lt (a b : Int) : cmI a b < 0 ↔ a < b := by unfold cmI; repeat' split; all_goals omega
theorem cmI_zero (a b : Int) : cmI a b = 0 ↔ a = b := by unfold cmI; repeat' split; all_goals omega
theorem cfP_lt (x y : S109) : ltOf cfP x y = decide (x.f0 < y.f0 ∨ (x.f0 = y.f0 ∧ x.f1 < y.f1)) := by
 unfold ltOf cfP
 have h1 := cmI_lt x.f0 y.f0
 have h2 := cmI_lt x.f1 y.f1
 have h3 := cmI_zero x.f0 y.f0
 by_cases h : cmI x.f0 y.f0 = 0
 ·
  rw [if_pos h]
  apply decide_eq_decide.2
  constructor
  ·
   intro h'; exact Or.inr ⟨h3.1 h, h2.1 h'⟩
  rintro (h' | h')
  ·
   have := h3.1 h; omega
  exact h2.2 h'.2
 rw [if_neg h]
 apply decide_eq_decide.2
 constructor
 ·
  intro h'; exact Or.inl (h1.1 h')
 rintro (h' | h')
 ·
  exact h1.2 h'
 exact absurd (h3.2 h'.1) h
theorem swoP : Go.Sort.SWO (ltOf cfP) where
 irrefl x := by rw [cfP_lt]; simp
 trans x y z h1 h2 := by rw [cfP_lt] at *; simp at *; omega
 ntrans x y z h1 h2 := by rw [cfP_lt] at *; simp at *; omega
def srtP (xs : List S109) : List S109 := xs.mergeSort fun x y => !(ltOf cfP) y x
theorem so_sortf (base : Nat) (v : Value) (xs : List S109) (w : World) (HR : Kd.R k109 109 w base (fun _ => True) v xs) (hsz : xs.length < 4611686018427387904) :
  Calls Try.prog 155 #[v, .func (.func 156) #[] #[]] w fun e w' => e = .returned (.tuple #[]) ∧ Kd.R k109 109 w' base (fun _ => True) v (srtP xs) ∧ Below base w w' := by
 have HR' := HR
 obtain ⟨hok, inner, ho, hr⟩ := HR
 rcases ho.2 with ⟨rfl, hn⟩ | ⟨g, cap, cur, rfl, hb, hh, hnc, hcm, hcs, ht⟩
 ·
  obtain rfl : xs = [] := List.eq_nil_of_length_eq_zero hn
  have hcon := AnyF.slices_SortFunc_none Try.laysSf none 0 (.func (.func 156) #[] #[]) w
  change Calls Try.prog 155 _ _ _ at hcon
  exact hcon.mono fun e w' ⟨he, hw⟩ => ⟨he, by rw [hw, show srtP [] = [] by simp [srtP]]; exact HR', by rw [hw]; exact Below.refl _ _⟩
 have hlt : g < w.heap.size := (Array.getElem?_eq_some_iff.1 hh).1
 have hall := R_all2 HR'
 have eg : ∀ args w, (callFunc 156 args).run Try.prog w = .ok (.enter 156 args) w := enters_of Try.func156 (by kernel_rfl) rfl
 have hH : Go.Sort.HoldsK cells2 2 w g 0 xs.toArray := by
  unfold Go.Sort.HoldsK
  rw [flatK2]
  generalize xs.flatMap cells2 = F at hall
  intro j hj
  have hj' : j < F.length := by simpa using hj
  refine ⟨?_, by simp [World.frozen?, hh]⟩
  rw [Nat.zero_add, hall j _ (List.getElem?_eq_getElem hj')]
  simp [hj']
 have hcon := AnyQ.slices_SortFunc_total Try.laysSf 2 Try.isAgg109 Try.sizeOf109 cells2 (fun _ => rfl) (fun x u hu => by simp [cells2] at hu; rcases hu with rfl | rfl <;> rfl) cfP swoP 156 #[] g 0 cap xs.toArray w eg
  (fun m os dk hs x y => so_cmp x y _) hH hlt (by simpa using hsz) (fun x y h1 h2 => by rw [cfP_lt] at h1 h2; simp at h1 h2; cases x; cases y; simp at *; omega)
 change Calls Try.prog 155 _ _ _ at hcon
 refine hcon.mono fun e w' hw => ?_
 obtain ⟨he, n, os, rfl⟩ := hw
 have hl : (srtP xs).length = xs.length := List.length_mergeSort _
 have e1 : (xs.toArray.toList.mergeSort fun x y => !(ltOf cfP) y x) = srtP xs := rfl
 rw [e1]
 unfold Go.Proofs.sortWorldK Go.Sort.putRowK
 rw [flatK2]
 have hsz2 : cur.size = cap * 2 := hcs
 have hpc : (putCells id 0 ((srtP xs).flatMap cells2).toArray cur).toList.take ((srtP xs).length * 2) = (srtP xs).flatMap cells2 := by
  have hFl := flat2_len (srtP xs)
  generalize (srtP xs).flatMap cells2 = F at hFl
  rw [← hFl]
  apply List.ext_getElem?
  intro j
  by_cases hj : j < F.length
  ·
   rw [List.getElem?_take_of_lt hj, Array.getElem?_toList]
   simp [putCells, hj, show j < cur.size by omega]
  rw [List.getElem?_take_eq_none (by omega), List.getElem?_eq_none (by omega)]
 refine ⟨he, ?_, ?_⟩
 ·
  have h2 := R_mk2 (base := base) (cap := cap) (x := srtP xs) (W := grow (putRow id (Go.Sort.ahead w n) g 0 ((srtP xs).flatMap cells2).toArray) os) (putCells id 0 ((srtP xs).flatMap cells2).toArray cur) (by
   rw [Go.Sort.heap_grow_old _ _ (by simpa using hlt)]
   simp [putRow, Go.Sort.mapBlock, Go.Sort.ahead, Array.getElem?_modify, hh, Go.Sort.onCells]) hb (by omega) hcm (by simpa [putCells] using hsz2) hpc
  rw [hl] at h2
  exact h2
 refine ⟨rfl, rfl, rfl, by simp, fun k hk => ?_⟩
 rw [Go.Sort.heap_grow_old _ _ (by simp; omega)]
 have : g ≠ k := by omega
 simp [putRow, Go.Sort.mapBlock, Go.Sort.ahead, Array.getElem?_modify, this]
set_option maxHeartbeats 1000000 in
theorem so_played (base : Nat) (v : Value) (xs : List S109) (w : World) (HR : Kd.R k109 109 w base (fun _ => True) v xs) (hsz : xs.length < 4611686018427387904) :
  Calls Try.prog 117 #[v] w fun e w' => e = .returned (.tuple #[]) ∧ Kd.R k109 109 w' base (fun _ => True) v (srtP xs) ∧ Below base w w' := by
 have hcon := so_sortf base v xs w HR hsz
 obtain ⟨A, c, rfl⟩ := Kd.R_slice HR
 have HC := sk_' hcon
 clear hcon HR
 go_enter Try.func117, Try.ntmps117
 go_wp2_with (go_at_call 155; refine HC.out.mono ?_; rintro e w' ⟨rfl, ho, hb⟩; have HO := sk_' ho; have HB := sk_' hb; clear ho hb)
 go_end0
 exact ⟨rfl, HO.out, HB.out⟩
end
def impl_PlayScore.l0 : Nat → List (S140) → List (S109) → List (S118) → Int → Int → Option ((List (S109)) × Bool)
 | 0, _, _, _, _, _ => none
 | k + 1, x1, x6, x16, x17, x18 => if x18 < x17 then (if 0 ≤ x18 then (if x18 < (x16.length : Int) then ((impl_TimeOf.f k x1 ((rd_T118 x16 x18).f0)).bind fun bt1148 => (if bt1148.2.2 = true then ((impl_FloorRatio.f k bt1148.1 bt1148.2.1).bind fun t1152 => (if x6.length < 8796093022208 then (impl_PlayScore.l0 k x1 (x6 ++ [(⟨t1152, (rd_T118 x16 x18).f2⟩ : S109)]) x16 x17 (wrap64 (x18 + 1))) else (none))) else (some ((([] : List (S109))), false)))) else (none)) else (none)) else (if x6.length < 4611686018427387904 then (some (srtP x6, true)) else (none))
def impl_PlayScore.f (k : Nat) (l0 : List (S118)) (l1 : List (S140)) : Option ((List (S109)) × Bool) := (some (([] : List (S109)) : List (S109))).bind fun y1142 => ((impl_IsScore.f k l0).bind fun t1145 => (if t1145 = true then (impl_PlayScore.l0 k l1 y1142 l0 (l0.length : Int) 0) else (some (y1142, false))))
def impl_PlayScore.T10 : Bool × List (List Nat × List Nat) := (true, [([], []), ([], []), ([1], [1]), ([], []), ([3], [3]), ([2, 4], [2, 4]), ([5], [5]), ([0, 6, 2], [0, 6]), ([7, 7, 0, 1, 2, 3, 4, 5, 6, 7], [0, 7])])
def impl_PlayScore.B10 : List Nat := [0, 0, 2, 0, 8, 30, 62, 127, 255]
theorem impl_PlayScore.tab10 : rtab .any (opsOf Try.f59 10) = impl_PlayScore.T10 := by kernel_rfl
theorem impl_PlayScore.bits10 : waitsOk impl_PlayScore.T10.2 impl_PlayScore.B10 = true := by kernel_rfl
set_option maxHeartbeats 8000000 in
set_option maxRecDepth 100000 in
theorem impl_PlayScore.calls (k : Nat) (A0 : Option Addr) (c0 : Nat) (l0 : List (S118)) (A1 : Option Addr) (c1 : Nat) (l1 : List (S140)) (r1 : List (S109)) (r2 : Bool) (w : World) (hr0 : Kd.C k118 w A0 l0.length l0) (hc0 : l0.length ≤ c0) (hr1 : Kd.C k140 w A1 l1.length l1) (hc1 : l1.length ≤ c1) (h : impl_PlayScore.f k l0 l1 = some (r1, r2)) :
  Calls Try.prog 59 #[.slice A0 l0.length c0, .slice A1 l1.length c1] w fun e w' => ∃ v0_ : Value, e = .returned (.tuple #[v0_, .bool r2]) ∧ Kd.R k109 109 w' w.heap.size (fun _ => True) v0_ r1 ∧ Below w.heap.size w w' := by
 have hu118 := Try.underlying118
 have hu134 := Try.underlying134
 have hu109 := Try.underlying109
 have HR0 := sk_' hr0
 have HC0 := sk_' hc0
 clear hr0 hc0
 have HR1 := sk_' hr1
 have HC1 := sk_' hc1
 clear hr1 hc1
 have HB := sk_' (Below.refl w.heap.size w)
 have H : ((some (([] : List (S109)) : List (S109))).bind fun y1142 => ((impl_IsScore.f k l0).bind fun t1145 => (if t1145 = true then (impl_PlayScore.l0 k l1 y1142 l0 (l0.length : Int) 0) else (some (y1142, false))))) = some (r1, r2) := h
 clear h
 obtain ⟨y1142, hy1142⟩ : ∃ y_ : List (S109), y_ = (([] : List (S109))) := ⟨_, rfl⟩
 replace H : ((impl_IsScore.f k l0).bind fun t1145 => (if t1145 = true then (impl_PlayScore.l0 k l1 y1142 l0 (l0.length : Int) 0) else (some (y1142, false)))) = some (r1, r2) := by first | (rw [hy1142]; with_reducible exact H) | (have H2_ := (Option.bind_some _ _).symm.trans H; rw [hy1142]; with_reducible exact H2_) | (have H2_ := (Option.bind_some _ _).symm.trans H; with_reducible exact H2_) | with_reducible exact H | (rw [hy1142]; exact H) | exact H
 have Ny1142 := sk_' hy1142
 clear hy1142
 replace H := bs_' H
 obtain ⟨t1145, A30, H⟩ := H
 try dsimp only at H
 have A3 := sk_' A30
 clear A30
 by_cases c4 : t1145 = true
 ·
  subst c4
  rw [if_pos rfl] at H
  have H' := sk_' H
  clear H
  go_enter Try.func59, Try.ntmps59
  go_wp2_with (first | ((with_reducible refine gate_dst (N := 11) rfl ?_); refine Kd.R_lit k109 _ 109 ?hg (N := 11) ?hd (xs := ([] : List (S109))) (inner := []) (ok := fun _ => True) (okp := fun _ => True) ?hr ?hp (fun _ hk => hk) trivial (Below.refl _ _) (Nat.le_refl _) (by simp) ?_; (case hd => rfl); (case hg => rfl); (case hr => first | (go_simp; done) | (go_simp; rfl)); (case hp => exact (Reps.none _ _)); intro v1143 w5 ho6 hb hg_ hnew_; clear hg_ hnew_; (first | rw [← Ny1142.out] at ho6 | (simp only [Int.reduceToNat] at ho6; rw [← Ny1142.out] at ho6)); have n0_ := sk_' (Kd.R_lower ho6 (ps_' (by repeat (first | (with_reducible first | exact HB.out | apply pa_' | apply pn_' | apply pd_') | exact HB.out)))); have n1_ := sk_' (pp_' (by repeat (first | (with_reducible first | exact HB.out | apply pa_' | apply pn_' | apply pd_') | exact HB.out)) hb); clear HB; have HO1144 := n0_; have HB := n1_; clear n0_ n1_; clear hb ho6) | ((with_reducible refine xj_' (f := 97) rfl ?_); refine goesL_ (some 13) rfl rfl Try.func97 (by kernel_rfl) rfl #[.slice A0 l0.length c0] rfl (by (try simp only [xm_', xc_', xn_']); first | done | rfl | (simp only [xd_', xt_']; rfl)) ?_; (with_reducible refine (impl_IsScore.calls k _ _ l0 true _ ?side1 ?side2 A3.out).mono ?_); (case side1 => repeat (first | exact (Kd.C_below HR0.out HB.out) | (with_reducible refine xg_' ?_ _) | (with_reducible refine xe_' ?_ _) | (with_reducible refine xf_' ?_))); (case side2 => exact HC0.out); rintro e w7 ⟨rfl, hb⟩; refine ⟨_, rfl, ?_⟩; have n0_ := sk_' (xb_' (by (with_reducible repeat (first | apply ra_' | apply rn_' | apply rd1_')); exact HO1144.out) hb); have n1_ := sk_' (pp_' (by repeat (first | (with_reducible first | exact HB.out | apply pa_' | apply pn_' | apply pd_') | exact HB.out)) hb); clear HO1144; clear HB; have HO1144 := n0_; have HB := n1_; clear n0_ n1_; (try clear hb); (try clear hb2); (try clear hk); (try clear hi)))
  go_loopg [6, 18] k (fun kq v6 v18 w' => ∃ (x6_1 : List (S109)) (x18_1 : Int), v18 = .int .i64 x18_1 ∧ Aside0 (impl_PlayScore.l0 kq l1 x6_1 l0 (l0.length : Int) x18_1 = some (r1, r2)) ∧ Aside0 (kq ≤ k) ∧ Aside0 (Kd.R k109 109 w' w.heap.size (fun _ => True) v6 x6_1) ∧ Aside0 (Below w.heap.size w w'))
  case atStart => exact ⟨(y1142), (0), (by first | rfl | (simp; done) | (simp [*]; done)), H', ⟨Nat.le_refl _⟩, ⟨by (with_reducible repeat (first | apply ra_' | apply rn_' | apply rd1_')); exact HO1144.out⟩, ⟨by repeat (first | (with_reducible first | exact HB.out | apply pa_' | apply pn_' | apply pd_') | exact HB.out)⟩⟩
  case round =>
   clear H'
   try clear c1
   try clear p2
   try clear c4
   try clear c5
   obtain ⟨x6_1, x18_1, rfl, HA, HK1, HO_6, HB⟩ := hrel
   cases gk with
   | zero => exact absurd HA.out (by simp [impl_PlayScore.l0])
   | succ k1 =>
    have H := HA.out
    clear HA
    simp only [impl_PlayScore.l0] at H
    by_cases c8 : x18_1 < (l0.length : Int)
    ·
     rw [if_pos c8] at H
     have c8b0 : decide (x18_1 < (l0.length : Int)) = true := decide_eq_true c8
     clear c8
     by_cases c9 : 0 ≤ x18_1
     ·
      rw [if_pos c9] at H
      have c9b0 : decide (0 ≤ x18_1) = true := decide_eq_true c9
      clear c9
      by_cases c10 : x18_1 < (l0.length : Int)
      ·
       rw [if_pos c10] at H
       have c10b0 : decide (x18_1 < (l0.length : Int)) = true := decide_eq_true c10
       clear c10
       replace H := bs_' H
       obtain ⟨⟨t1148, t1149, t1150⟩, A110, H⟩ := H
       try dsimp only at H
       have A11 := sk_' A110
       clear A110
       by_cases c12 : t1150 = true
       ·
        subst c12
        rw [if_pos rfl] at H
        replace H := bs_' H
        obtain ⟨t1152, A130, H⟩ := H
        try dsimp only at H
        have A13 := sk_' A130
        clear A130
        by_cases c14 : x6_1.length < 8796093022208
        ·
         rw [if_pos c14] at H
         have LMc14 := sk_' c14
         clear c14
         obtain ⟨y1153, hy1153⟩ : ∃ y_ : List (S109), y_ = (x6_1 ++ [(⟨t1152, (rd_T118 l0 x18_1).f2⟩ : S109)]) := ⟨_, rfl⟩
         replace H : (impl_PlayScore.l0 k1 l1 y1153 l0 (l0.length : Int) (wrap64 (x18_1 + 1))) = some (r1, r2) := by first | (rw [hy1153]; with_reducible exact H) | (have H2_ := (Option.bind_some _ _).symm.trans H; rw [hy1153]; with_reducible exact H2_) | (have H2_ := (Option.bind_some _ _).symm.trans H; with_reducible exact H2_) | with_reducible exact H | (rw [hy1153]; exact H) | exact H
         have Ny1153 := sk_' hy1153
         clear hy1153
         have H' := sk_' H
         clear H
         have p1146 : 0 ≤ (x18_1 : Int) := od_' (by first | (with_reducible assumption) | assumption)
         have q1146 : x18_1 < (l0.length : Int) := od_' (by first | (with_reducible assumption) | assumption)
         obtain ⟨ad1146, e1146, hx1146_0, hx1146_1, hx1146_2, hx1146_3⟩ := at_T118 HR0.out x18_1 p1146 q1146
         cases e1146
         replace hx1146_0 := (HB.out.cell (bq_' w _ hx1146_0)).trans hx1146_0
         replace hx1146_1 := (HB.out.cell (bq_' w _ hx1146_1)).trans hx1146_1
         replace hx1146_2 := (HB.out.cell (bq_' w _ hx1146_2)).trans hx1146_2
         replace hx1146_3 := (HB.out.cell (bq_' w _ hx1146_3)).trans hx1146_3
         replace p1146 := eq_true p1146
         replace q1146 := eq_true q1146
         try go_wp2_with (first | ((with_reducible refine gate_dst (N := 8) rfl ?_); refine box_event ?hg (N := 8) ?hd (cs := #[.int .i64 0, .int .i64 0, .int .i64 0, .int .i64 0]) (t := 118) ?hr ?_; (case hd => rfl); (case hg => rfl); (case hr => first | (go_simp; done) | (go_simp; rfl)); intro gb1147 hg w15 hbox hb; have n0_ := sk_' (xb_' (by (with_reducible repeat (first | apply ra_' | apply rn_' | apply rd1_')); exact HO_6.out) hb); have n1_ := sk_' (pp_' (by repeat (first | (with_reducible first | exact HB.out | apply pa_' | apply pn_' | apply pd_') | exact HB.out)) hb); have n2_ := sk_' (hbox); have n3_ := sk_' ((by rw [hg]; exact (ps_' (by repeat (first | (with_reducible first | exact HB.out | apply pa_' | apply pn_' | apply pd_') | exact HB.out))) : w.heap.size ≤ gb1147)); have n4_ := sk_' ((by rw [hg]; exact (ps_' (by repeat (first | (with_reducible first | exact HB.out | apply pa_' | apply pn_' | apply pd_') | exact HB.out))) : w.heap.size ≤ gb1147)); clear HO_6; clear HB; have HO_6 := n0_; have HB := n1_; have BK1147 := n2_; have GW1147 := n3_; have GE1147 := n4_; clear n0_ n1_ n2_ n3_ n4_; clear hb hbox hg; have hcz16_0 : w15.cell? ⟨gb1147, 0, none⟩ = some (.int .i64 0) := (kc_' BK1147.out 0).trans rfl; have hcz16_1 : w15.cell? ⟨gb1147, 1, none⟩ = some (.int .i64 0) := (kc_' BK1147.out 1).trans rfl; have hcz16_2 : w15.cell? ⟨gb1147, 2, none⟩ = some (.int .i64 0) := (kc_' BK1147.out 2).trans rfl; have hcz16_3 : w15.cell? ⟨gb1147, 3, none⟩ = some (.int .i64 0) := (kc_' BK1147.out 3).trans rfl; have hfz16_0 := kf_' BK1147.out 0; have hfz16_1 := kf_' BK1147.out 1; have hfz16_2 := kf_' BK1147.out 2; have hfz16_3 := kf_' BK1147.out 3) | ((with_reducible refine xj_' (f := 115) rfl ?_); refine goesL_ (some 26) rfl rfl Try.func115 (by kernel_rfl) rfl #[.slice A1 l1.length c1, .int .i64 ((rd_T118 l0 x18_1).f0)] rfl (by (try simp only [xm_', xc_', xn_']); first | done | rfl | (simp only [xd_', xt_']; rfl)) ?_; (with_reducible refine (impl_TimeOf.calls k1 _ _ l1 ((rd_T118 l0 x18_1).f0) t1148 t1149 true _ ?side1 ?side2 A11.out).mono ?_); (case side1 => exact Kd.C_below HR1.out (by repeat (first | (with_reducible first | exact HB.out | apply pa_' | apply pn_' | apply pd_' | refine pt_' ?_ GE1147.out) | exact HB.out))); (case side2 => exact HC1.out); rintro e w17 ⟨rfl, hb⟩; refine ⟨_, rfl, ?_⟩; have n0_ := sk_' (xb_' (by (with_reducible repeat (first | apply ra_' | apply rn_' | apply rd1_')); exact (xi_' (Kd.R_far (p := ⟨gb1147, 3, none⟩) (Kd.R_far (p := ⟨gb1147, 2, none⟩) (Kd.R_far (p := ⟨gb1147, 1, none⟩) (Kd.R_far (p := ⟨gb1147, 0, none⟩) (Kd.R_types HO_6.out BK1147.out (by decide)) (fun _ hk => hk.2) (.int .i64 ((rd_T118 l0 x18_1).f0))) (fun _ hk => hk.2) (.int .i64 ((rd_T118 l0 x18_1).f1))) (fun _ hk => hk.2) (.int .i64 ((rd_T118 l0 x18_1).f2))) (fun _ hk => hk.2) (.int .i64 ((rd_T118 l0 x18_1).f3))) (fun _ h_ => h_.1))) hb); have n1_ := sk_' (blk_below (g := gb1147) (o := .cells #[.int .i64 ((rd_T118 l0 x18_1).f0), .int .i64 ((rd_T118 l0 x18_1).f1), .int .i64 ((rd_T118 l0 x18_1).f2), .int .i64 ((rd_T118 l0 x18_1).f3)] 118 (0, 0)) (by (with_reducible repeat (first | refine kn_' ?_ _ | refine kd_' ?_ | refine ka_' ?_ _)); refine blk_put (cs := #[.int .i64 ((rd_T118 l0 x18_1).f0), .int .i64 ((rd_T118 l0 x18_1).f1), .int .i64 ((rd_T118 l0 x18_1).f2), .int .i64 0]) ?_ 3 _ rfl; (with_reducible repeat (first | refine kn_' ?_ _ | refine kd_' ?_ | refine ka_' ?_ _)); refine blk_put (cs := #[.int .i64 ((rd_T118 l0 x18_1).f0), .int .i64 ((rd_T118 l0 x18_1).f1), .int .i64 0, .int .i64 0]) ?_ 2 _ rfl; (with_reducible repeat (first | refine kn_' ?_ _ | refine kd_' ?_ | refine ka_' ?_ _)); refine blk_put (cs := #[.int .i64 ((rd_T118 l0 x18_1).f0), .int .i64 0, .int .i64 0, .int .i64 0]) ?_ 1 _ rfl; (with_reducible repeat (first | refine kn_' ?_ _ | refine kd_' ?_ | refine ka_' ?_ _)); refine blk_put (cs := #[.int .i64 0, .int .i64 0, .int .i64 0, .int .i64 0]) ?_ 0 _ rfl; (with_reducible repeat (first | refine kn_' ?_ _ | refine kd_' ?_ | refine ka_' ?_ _)); exact BK1147.out) hb); have n2_ := sk_' (pp_' (by repeat (first | (with_reducible first | exact HB.out | apply pa_' | apply pn_' | apply pd_' | refine pt_' ?_ GE1147.out) | exact HB.out)) hb); clear HO_6; clear BK1147; clear HB; have HO_6 := n0_; have BK1147 := n1_; have HB := n2_; clear n0_ n1_ n2_; (try clear hb); (try clear hb2); (try clear hk); (try clear hi)) | ((with_reducible refine gate_dst (N := 9) rfl ?_); refine box_event ?hg (N := 9) ?hd (cs := #[.int .i64 0, .int .i64 0]) (t := 134) ?hr ?_; (case hd => rfl); (case hg => rfl); (case hr => first | (go_simp; done) | (go_simp; rfl)); intro gb1151 hg w18 hbox hb; have n0_ := sk_' (xb_' (by (with_reducible repeat (first | apply ra_' | apply rn_' | apply rd1_')); exact HO_6.out) hb); have n1_ := sk_' (blk_below (g := gb1147) (o := .cells #[.int .i64 ((rd_T118 l0 x18_1).f0), .int .i64 ((rd_T118 l0 x18_1).f1), .int .i64 ((rd_T118 l0 x18_1).f2), .int .i64 ((rd_T118 l0 x18_1).f3)] 118 (0, 0)) (by (with_reducible repeat (first | refine kn_' ?_ _ | refine kd_' ?_ | refine ka_' ?_ _)); exact BK1147.out) hb); have n2_ := sk_' (pp_' (by repeat (first | (with_reducible first | exact HB.out | apply pa_' | apply pn_' | apply pd_' | refine pt_' ?_ GE1147.out) | exact HB.out)) hb); have n3_ := sk_' (hbox); have n4_ := sk_' ((by rw [hg]; exact (ps_' (by repeat (first | (with_reducible first | exact HB.out | apply pa_' | apply pn_' | apply pd_' | refine pt_' ?_ GE1147.out) | exact HB.out))) : w.heap.size ≤ gb1151)); have n5_ := sk_' ((by rw [hg]; exact (ps_' (by repeat (first | (with_reducible first | exact HB.out | apply pa_' | apply pn_' | apply pd_' | refine pt_' ?_ GE1147.out) | exact HB.out))) : w.heap.size ≤ gb1151)); have n6_ := sk_' ((by rw [hg]; exact Nat.ne_of_lt (blk_lt (g := gb1147) (o := .cells #[.int .i64 ((rd_T118 l0 x18_1).f0), .int .i64 ((rd_T118 l0 x18_1).f1), .int .i64 ((rd_T118 l0 x18_1).f2), .int .i64 ((rd_T118 l0 x18_1).f3)] 118 (0, 0)) (by (with_reducible repeat (first | refine kn_' ?_ _ | refine kd_' ?_ | refine ka_' ?_ _)); exact BK1147.out)) : gb1147 ≠ gb1151)); have n7_ := sk_' ((by rw [hg]; exact Nat.ne_of_gt (blk_lt (g := gb1147) (o := .cells #[.int .i64 ((rd_T118 l0 x18_1).f0), .int .i64 ((rd_T118 l0 x18_1).f1), .int .i64 ((rd_T118 l0 x18_1).f2), .int .i64 ((rd_T118 l0 x18_1).f3)] 118 (0, 0)) (by (with_reducible repeat (first | refine kn_' ?_ _ | refine kd_' ?_ | refine ka_' ?_ _)); exact BK1147.out)) : gb1151 ≠ gb1147)); clear HO_6; clear BK1147; clear HB; have HO_6 := n0_; have BK1147 := n1_; have HB := n2_; have BK1151 := n3_; have GW1151 := n4_; have GE1151 := n5_; have NB1147_1151 := n6_; have NB1151_1147 := n7_; clear n0_ n1_ n2_ n3_ n4_ n5_ n6_ n7_; clear hb hbox hg; have hnb19 := NB1151_1147.out; have hnc19 := NB1147_1151.out; have hcz20_0 : w18.cell? ⟨gb1151, 0, none⟩ = some (.int .i64 0) := (kc_' BK1151.out 0).trans rfl; have hcz20_1 : w18.cell? ⟨gb1151, 1, none⟩ = some (.int .i64 0) := (kc_' BK1151.out 1).trans rfl; have hfz20_0 := kf_' BK1151.out 0; have hfz20_1 := kf_' BK1151.out 1))
         have n0_ : Aside0 (Kd.R k109 109 ((w18.setCell ⟨gb1151, 0, none⟩ (.int .i64 t1148)).setCell ⟨gb1151, 1, none⟩ (.int .i64 t1149)) w.heap.size (fun _ => True) u6 x6_1) := ⟨by (with_reducible repeat (first | apply ra_' | apply rn_' | apply rd1_')); exact xi_' (Kd.R_far (p := ⟨gb1151, 1, none⟩) (Kd.R_far (p := ⟨gb1151, 0, none⟩) (Kd.R_types HO_6.out BK1151.out (by decide)) (fun _ hk => hk.2) (.int .i64 t1148)) (fun _ hk => hk.2) (.int .i64 t1149)) (fun _ hk => trivial)⟩
         have n1_ : Aside0 (((w18.setCell ⟨gb1151, 0, none⟩ (.int .i64 t1148)).setCell ⟨gb1151, 1, none⟩ (.int .i64 t1149)).heap[gb1147]? = some (.cells #[.int .i64 ((rd_T118 l0 x18_1).f0), .int .i64 ((rd_T118 l0 x18_1).f1), .int .i64 ((rd_T118 l0 x18_1).f2), .int .i64 ((rd_T118 l0 x18_1).f3)] 118 (0, 0))) := ⟨by (with_reducible repeat (first | refine kn_' ?_ _ | refine kd_' ?_ | refine ka_' ?_ _)); refine blk_far ?_ NB1147_1151.out _; (with_reducible repeat (first | refine kn_' ?_ _ | refine kd_' ?_ | refine ka_' ?_ _)); refine blk_far ?_ NB1147_1151.out _; (with_reducible repeat (first | refine kn_' ?_ _ | refine kd_' ?_ | refine ka_' ?_ _)); exact BK1147.out⟩
         have n2_ : Aside0 (((w18.setCell ⟨gb1151, 0, none⟩ (.int .i64 t1148)).setCell ⟨gb1151, 1, none⟩ (.int .i64 t1149)).heap[gb1151]? = some (.cells #[.int .i64 t1148, .int .i64 t1149] 134 (0, 0))) := ⟨by (with_reducible repeat (first | refine kn_' ?_ _ | refine kd_' ?_ | refine ka_' ?_ _)); refine blk_put (cs := #[.int .i64 t1148, .int .i64 0]) ?_ 1 _ rfl; (with_reducible repeat (first | refine kn_' ?_ _ | refine kd_' ?_ | refine ka_' ?_ _)); refine blk_put (cs := #[.int .i64 0, .int .i64 0]) ?_ 0 _ rfl; (with_reducible repeat (first | refine kn_' ?_ _ | refine kd_' ?_ | refine ka_' ?_ _)); exact BK1151.out⟩
         have n3_ : Aside0 (Below w.heap.size w ((w18.setCell ⟨gb1151, 0, none⟩ (.int .i64 t1148)).setCell ⟨gb1151, 1, none⟩ (.int .i64 t1149))) := ⟨by repeat (first | (with_reducible first | exact HB.out | apply pa_' | apply pn_' | apply pd_' | refine pt_' ?_ GE1147.out | refine pt_' ?_ GE1151.out) | exact HB.out)⟩
         (try clear HO_6)
         (try clear BK1147)
         (try clear BK1151)
         (try clear HB)
         generalize ((w18.setCell ⟨gb1151, 0, none⟩ (.int .i64 t1148)).setCell ⟨gb1151, 1, none⟩ (.int .i64 t1149)) = w21 at n0_ n1_ n2_ n3_ ⊢
         have HO_6 := n0_
         have BK1147 := n1_
         have BK1151 := n2_
         have HB := n3_
         clear n0_ n1_ n2_ n3_
         have n0_ := sk_' (rd1_' HO_6.out)
         have n1_ := sk_' (kd_' BK1147.out)
         have n2_ := sk_' (kd_' BK1151.out)
         have n3_ := sk_' (pd_' HB.out)
         clear HO_6
         clear BK1147
         clear BK1151
         clear HB
         have HO_6 := n0_
         have BK1147 := n1_
         have BK1151 := n2_
         have HB := n3_
         clear n0_ n1_ n2_ n3_
         refine start_ (n := 9) (S := fun w' => w'.cell? ⟨gb1151, 0, none⟩ = some (.int .i64 t1148) ∧ w'.cell? ⟨gb1151, 1, none⟩ = some (.int .i64 t1149) ∧ w'.cell? ⟨gb1147, 0, none⟩ = some (.int .i64 ((rd_T118 l0 x18_1).f0)) ∧ w'.cell? ⟨gb1147, 1, none⟩ = some (.int .i64 ((rd_T118 l0 x18_1).f1)) ∧ w'.cell? ⟨gb1147, 2, none⟩ = some (.int .i64 ((rd_T118 l0 x18_1).f2)) ∧ w'.cell? ⟨gb1147, 3, none⟩ = some (.int .i64 ((rd_T118 l0 x18_1).f3))) (ds := []) #[false, false, false, false, false, false, false, false, false] (by kernel_rfl) rfl rfl ⟨(kc_' BK1151.out 0).trans rfl, (kc_' BK1151.out 1).trans rfl, (kc_' BK1147.out 0).trans rfl, (kc_' BK1147.out 1).trans rfl, (kc_' BK1147.out 2).trans rfl, (kc_' BK1147.out 3).trans rfl⟩ (fun hHeld => ?_); refine with_tabW impl_PlayScore.tab10 impl_PlayScore.bits10 (fun HT_ HW_ => ?_)
         generalize w21.drew = w22 at HO_6 BK1147 BK1151 HB hHeld ⊢
         refine pure_ (i := 0) (N := some 32) (v := ?_) (a' := ?_) #[true, false, false, false, false, false, false, false, false] rfl rfl (any_of HT_.out (by kernel_rfl)) (fun _ _ _ h => h) (Or.inl ⟨by rfl, ?_⟩) ?_ ?_
         rotate_left
         ·
          intro w'
          go_simp
          with_reducible rfl
         rotate_left
         ·
          simp only [Act.put, sa_', sz_', sc_', i64_w, i32_w]
          rfl
         refine pure_ (i := 3) (N := some 35) (v := ?_) (a' := ?_) #[true, false, false, true, false, false, false, false, false] rfl rfl (any_of HT_.out (by kernel_rfl)) (fun _ _ _ h => h) (Or.inl ⟨by rfl, ?_⟩) ?_ ?_
         rotate_left
         ·
          intro w'
          go_simp
          with_reducible rfl
         rotate_left
         ·
          simp only [Act.put, sa_', sz_', sc_', i64_w, i32_w]
          rfl
         refine take_ (i := 1) (N := some 33) (v := ?_) (a' := ?_) #[true, true, false, true, false, false, false, false, false] rfl rfl (take_ofW HT_.out HW_.out (by kernel_rfl)) (fun _ _ _ h => h) (Or.inl ⟨by rfl, ?_⟩) hHeld ?_ ?_
         rotate_left
         ·
          rintro w' ⟨s0, s1, s2, s3, s4, s5⟩
          go_simp
          with_reducible rfl
         rotate_left
         ·
          simp only [Act.put, sa_', sz_', sc_', i64_w, i32_w]
          rfl
         refine take_ (i := 4) (N := some 36) (v := ?_) (a' := ?_) #[true, true, false, true, true, false, false, false, false] rfl rfl (take_ofW HT_.out HW_.out (by kernel_rfl)) (fun _ _ _ h => h) (Or.inl ⟨by rfl, ?_⟩) hHeld ?_ ?_
         rotate_left
         ·
          rintro w' ⟨s0, s1, s2, s3, s4, s5⟩
          go_simp
          with_reducible rfl
         rotate_left
         ·
          simp only [Act.put, sa_', sz_', sc_', i64_w, i32_w]
          rfl
         refine one_ (i := 2) (N := some 34) #[true, true, true, true, true, false, false, false, false] rfl rfl (one_of HT_.out (by kernel_rfl)) (by decide) (fun K hK => ?_)
         refine goes_ Try.func116 (by kernel_rfl) rfl #[.agg #[.int .i64 t1148, .int .i64 t1149]] (by rfl) rfl rfl (by (try simp only [xm_', xc_', xn_']); first | done | rfl | (simp only [xd_', xt_']; rfl)) ?_
         with_reducible refine (impl_FloorRatio.calls k1 t1148 t1149 t1152 _ A13.out).mono ?_
         rintro e w23 ⟨rfl, hb⟩
         refine ⟨_, rfl, ?_⟩
         have n0_ := sk_' (xb_' (rm HO_6) hb)
         have n1_ := sk_' (blk_below (g := gb1147) (o := .cells #[.int .i64 ((rd_T118 l0 x18_1).f0), .int .i64 ((rd_T118 l0 x18_1).f1), .int .i64 ((rd_T118 l0 x18_1).f2), .int .i64 ((rd_T118 l0 x18_1).f3)] 118 (0, 0)) (km BK1147) hb)
         have n2_ := sk_' (blk_below (g := gb1151) (o := .cells #[.int .i64 t1148, .int .i64 t1149] 134 (0, 0)) (km BK1151) hb)
         have n3_ := sk_' (pp_' (bm HB) hb)
         clear HO_6
         clear BK1147
         clear BK1151
         clear HB
         have HO_6 := n0_
         have BK1147 := n1_
         have BK1151 := n2_
         have HB := n3_
         clear n0_ n1_ n2_ n3_
         (try clear hb)
         (try clear hb2)
         (try clear hk)
         (try clear hi)
         refine hK.out _ _ ⟨(kc_' BK1151.out 0).trans rfl, (kc_' BK1151.out 1).trans rfl, (kc_' BK1147.out 0).trans rfl, (kc_' BK1147.out 1).trans rfl, (kc_' BK1147.out 2).trans rfl, (kc_' BK1147.out 3).trans rfl⟩ (fun hHeld => ?_)
         clear hK K
         refine norm_ (a' := ?_) ?_ ?_
         rotate_left
         ·
          show Act.put _ (some 34) _ = _
          simp only [Act.put, sa_', sz_', sc_', i64_w, i32_w]
          rfl
         refine pure_ (i := 5) (N := some 37) (v := ?_) (a' := ?_) #[true, true, true, true, true, true, false, false, false] rfl rfl (any_of HT_.out (by kernel_rfl)) (fun _ _ _ h => h) (Or.inl ⟨by rfl, ?_⟩) ?_ ?_
         rotate_left
         ·
          intro w'
          go_simp
          with_reducible rfl
         rotate_left
         ·
          simp only [Act.put, sa_', sz_', sc_', i64_w, i32_w]
          rfl
         refine one_ (i := 6) (N := some 38) #[true, true, true, true, true, true, true, false, false] rfl rfl (one_of HT_.out (by kernel_rfl)) (by decide) (fun K hK => ?_)
         refine value_ (w1 := ?_) (v := ?_) (by rfl) rfl ?_ ?_
         rotate_left 2
         ·
          go_simp
          constructor
          ·
           rfl
          rfl
         refine hK.out _ _ ⟨(kc_' (ka_' BK1151.out _) 0).trans rfl, (kc_' (ka_' BK1151.out _) 1).trans rfl, (kc_' (ka_' BK1147.out _) 0).trans rfl, (kc_' (ka_' BK1147.out _) 1).trans rfl, (kc_' (ka_' BK1147.out _) 2).trans rfl, (kc_' (ka_' BK1147.out _) 3).trans rfl⟩ (fun hHeld => ?_)
         clear hK K
         refine norm_ (a' := ?_) ?_ ?_
         rotate_left
         ·
          show Act.put _ (some 38) _ = _
          simp only [Act.put, sa_', sz_', sc_', i64_w, i32_w]
          rfl
         refine one_ (i := 7) (N := some 39) #[true, true, true, true, true, true, true, true, false] rfl rfl (one_of HT_.out (by kernel_rfl)) (by decide) (fun K hK => ?_)
         refine Kd.R_append_step k109 (w0 := w) w.heap.size (by rfl) (.tmp 32) (.tmp 38) 37 109 (.agg #[(.int .i64 0), (.int .i64 0)]) 16 rfl Try.underlying37 info109 rfl (by decide) (by omega) u6 x6_1 (⟨t1152, (rd_T118 l0 x18_1).f2⟩ : S109) [.int .i64 t1152, .int .i64 ((rd_T118 l0 x18_1).f2)] (fun _ => True) (fun _ => False) rfl rfl ?aP (fun _ hk => hk.elim) ?aF ?aO ?aB ?aS ?aL ?_
         (case aP => exact k109_mkM _ _ _ (⟨t1152, (rd_T118 l0 x18_1).f2⟩ : S109))
         (case aB => exact (bm HB))
         (case aF => exact (fun _ _ => trivial))
         (case aO => exact (rm HO_6))
         (case aS => exact (ps_' (bm HB)))
         (case aL => have := LMc14.out; omega)
         intro v1154 w24 ho hb hg hat
         rw [← Ny1153.out] at ho
         have n0_ := sk_' (blk_grown (g := gb1147) (o := .cells #[.int .i64 ((rd_T118 l0 x18_1).f0), .int .i64 ((rd_T118 l0 x18_1).f1), .int .i64 ((rd_T118 l0 x18_1).f2), .int .i64 ((rd_T118 l0 x18_1).f3)] 118 (0, 0)) (km BK1147) hg (Kd.R_ne HO_6.out BK1147.out (by decide)))
         have n1_ := sk_' (blk_grown (g := gb1151) (o := .cells #[.int .i64 t1148, .int .i64 t1149] 134 (0, 0)) (km BK1151) hg (Kd.R_ne HO_6.out BK1151.out (by decide)))
         have n2_ := sk_' (hb)
         have n3_ := sk_' (ho)
         clear BK1147
         clear BK1151
         clear HB
         clear HO_6
         have BK1147 := n0_
         have BK1151 := n1_
         have HB := n2_
         have HO1155 := n3_
         clear n0_ n1_ n2_ n3_
         clear ho hb hg hat
         refine hK.out _ _ ⟨(kc_' BK1151.out 0).trans rfl, (kc_' BK1151.out 1).trans rfl, (kc_' BK1147.out 0).trans rfl, (kc_' BK1147.out 1).trans rfl, (kc_' BK1147.out 2).trans rfl, (kc_' BK1147.out 3).trans rfl⟩ (fun hHeld => ?_)
         clear hK K
         refine norm_ (a' := ?_) ?_ ?_
         rotate_left
         ·
          show Act.put _ (some 39) _ = _
          simp only [Act.put, sa_', sz_', sc_', i64_w, i32_w]
          rfl
         refine pure_ (i := 8) (N := some 6) (v := ?_) (a' := ?_) #[true, true, true, true, true, true, true, true, true] rfl rfl (any_of HT_.out (by kernel_rfl)) (fun _ _ _ h => h) (Or.inl ⟨by rfl, ?_⟩) ?_ ?_
         rotate_left
         ·
          intro w'
          go_simp
          with_reducible rfl
         rotate_left
         ·
          simp only [Act.put, sa_', sz_', sc_', i64_w, i32_w]
          rfl
         refine done_ (done_of HT_.out (by kernel_rfl)) ?_
         try go_wp2
         go_roundg k1
         case measure => have := HK1.out; omega
         case rel => exact ⟨(y1153), (wrap64 (x18_1 + 1)), rfl, H', ⟨by have := HK1.out; omega⟩, ⟨rm HO1155⟩, ⟨bm HB⟩⟩
        rw [if_neg c14] at H
        exact absurd H (by simp)
       replace c12 := Bool.eq_false_iff.mpr c12
       subst c12
       rw [if_neg (show ¬ (false = true) by decide)] at H
       obtain ⟨y1156, hy1156⟩ : ∃ y_ : List (S109), y_ = (([] : List (S109))) := ⟨_, rfl⟩
       replace H : (some (y1156, false)) = some (r1, r2) := by first | (rw [hy1156]; with_reducible exact H) | (have H2_ := (Option.bind_some _ _).symm.trans H; rw [hy1156]; with_reducible exact H2_) | (have H2_ := (Option.bind_some _ _).symm.trans H; with_reducible exact H2_) | with_reducible exact H | (rw [hy1156]; exact H) | exact H
       have Ny1156 := sk_' hy1156
       clear hy1156
       simp only [Option.some.injEq, Prod.mk.injEq] at H
       obtain ⟨rfl, rfl⟩ := H
       have p1146 : 0 ≤ (x18_1 : Int) := od_' (by first | (with_reducible assumption) | assumption)
       have q1146 : x18_1 < (l0.length : Int) := od_' (by first | (with_reducible assumption) | assumption)
       obtain ⟨ad1146, e1146, hx1146_0, hx1146_1, hx1146_2, hx1146_3⟩ := at_T118 HR0.out x18_1 p1146 q1146
       cases e1146
       replace hx1146_0 := (HB.out.cell (bq_' w _ hx1146_0)).trans hx1146_0
       replace hx1146_1 := (HB.out.cell (bq_' w _ hx1146_1)).trans hx1146_1
       replace hx1146_2 := (HB.out.cell (bq_' w _ hx1146_2)).trans hx1146_2
       replace hx1146_3 := (HB.out.cell (bq_' w _ hx1146_3)).trans hx1146_3
       replace p1146 := eq_true p1146
       replace q1146 := eq_true q1146
       go_wp2_with (first | ((with_reducible refine gate_dst (N := 8) rfl ?_); refine box_event ?hg (N := 8) ?hd (cs := #[.int .i64 0, .int .i64 0, .int .i64 0, .int .i64 0]) (t := 118) ?hr ?_; (case hd => rfl); (case hg => rfl); (case hr => first | (go_simp; done) | (go_simp; rfl)); intro gb1147 hg w25 hbox hb; have n0_ := sk_' (xb_' (by (with_reducible repeat (first | apply ra_' | apply rn_' | apply rd1_')); exact HO_6.out) hb); have n1_ := sk_' (pp_' (by repeat (first | (with_reducible first | exact HB.out | apply pa_' | apply pn_' | apply pd_') | exact HB.out)) hb); have n2_ := sk_' (hbox); have n3_ := sk_' ((by rw [hg]; exact (ps_' (by repeat (first | (with_reducible first | exact HB.out | apply pa_' | apply pn_' | apply pd_') | exact HB.out))) : w.heap.size ≤ gb1147)); have n4_ := sk_' ((by rw [hg]; exact (ps_' (by repeat (first | (with_reducible first | exact HB.out | apply pa_' | apply pn_' | apply pd_') | exact HB.out))) : w.heap.size ≤ gb1147)); clear HO_6; clear HB; have HO_6 := n0_; have HB := n1_; have BK1147 := n2_; have GW1147 := n3_; have GE1147 := n4_; clear n0_ n1_ n2_ n3_ n4_; clear hb hbox hg; have hcz26_0 : w25.cell? ⟨gb1147, 0, none⟩ = some (.int .i64 0) := (kc_' BK1147.out 0).trans rfl; have hcz26_1 : w25.cell? ⟨gb1147, 1, none⟩ = some (.int .i64 0) := (kc_' BK1147.out 1).trans rfl; have hcz26_2 : w25.cell? ⟨gb1147, 2, none⟩ = some (.int .i64 0) := (kc_' BK1147.out 2).trans rfl; have hcz26_3 : w25.cell? ⟨gb1147, 3, none⟩ = some (.int .i64 0) := (kc_' BK1147.out 3).trans rfl; have hfz26_0 := kf_' BK1147.out 0; have hfz26_1 := kf_' BK1147.out 1; have hfz26_2 := kf_' BK1147.out 2; have hfz26_3 := kf_' BK1147.out 3) | ((with_reducible refine xj_' (f := 115) rfl ?_); refine goesL_ (some 26) rfl rfl Try.func115 (by kernel_rfl) rfl #[.slice A1 l1.length c1, .int .i64 ((rd_T118 l0 x18_1).f0)] rfl (by (try simp only [xm_', xc_', xn_']); first | done | rfl | (simp only [xd_', xt_']; rfl)) ?_; (with_reducible refine (impl_TimeOf.calls k1 _ _ l1 ((rd_T118 l0 x18_1).f0) t1148 t1149 false _ ?side1 ?side2 A11.out).mono ?_); (case side1 => exact Kd.C_below HR1.out (by repeat (first | (with_reducible first | exact HB.out | apply pa_' | apply pn_' | apply pd_' | refine pt_' ?_ GE1147.out) | exact HB.out))); (case side2 => exact HC1.out); rintro e w27 ⟨rfl, hb⟩; refine ⟨_, rfl, ?_⟩; have n0_ := sk_' (xb_' (by (with_reducible repeat (first | apply ra_' | apply rn_' | apply rd1_')); exact (xi_' (Kd.R_far (p := ⟨gb1147, 3, none⟩) (Kd.R_far (p := ⟨gb1147, 2, none⟩) (Kd.R_far (p := ⟨gb1147, 1, none⟩) (Kd.R_far (p := ⟨gb1147, 0, none⟩) (Kd.R_types HO_6.out BK1147.out (by decide)) (fun _ hk => hk.2) (.int .i64 ((rd_T118 l0 x18_1).f0))) (fun _ hk => hk.2) (.int .i64 ((rd_T118 l0 x18_1).f1))) (fun _ hk => hk.2) (.int .i64 ((rd_T118 l0 x18_1).f2))) (fun _ hk => hk.2) (.int .i64 ((rd_T118 l0 x18_1).f3))) (fun _ h_ => h_.1))) hb); have n1_ := sk_' (blk_below (g := gb1147) (o := .cells #[.int .i64 ((rd_T118 l0 x18_1).f0), .int .i64 ((rd_T118 l0 x18_1).f1), .int .i64 ((rd_T118 l0 x18_1).f2), .int .i64 ((rd_T118 l0 x18_1).f3)] 118 (0, 0)) (by (with_reducible repeat (first | refine kn_' ?_ _ | refine kd_' ?_ | refine ka_' ?_ _)); refine blk_put (cs := #[.int .i64 ((rd_T118 l0 x18_1).f0), .int .i64 ((rd_T118 l0 x18_1).f1), .int .i64 ((rd_T118 l0 x18_1).f2), .int .i64 0]) ?_ 3 _ rfl; (with_reducible repeat (first | refine kn_' ?_ _ | refine kd_' ?_ | refine ka_' ?_ _)); refine blk_put (cs := #[.int .i64 ((rd_T118 l0 x18_1).f0), .int .i64 ((rd_T118 l0 x18_1).f1), .int .i64 0, .int .i64 0]) ?_ 2 _ rfl; (with_reducible repeat (first | refine kn_' ?_ _ | refine kd_' ?_ | refine ka_' ?_ _)); refine blk_put (cs := #[.int .i64 ((rd_T118 l0 x18_1).f0), .int .i64 0, .int .i64 0, .int .i64 0]) ?_ 1 _ rfl; (with_reducible repeat (first | refine kn_' ?_ _ | refine kd_' ?_ | refine ka_' ?_ _)); refine blk_put (cs := #[.int .i64 0, .int .i64 0, .int .i64 0, .int .i64 0]) ?_ 0 _ rfl; (with_reducible repeat (first | refine kn_' ?_ _ | refine kd_' ?_ | refine ka_' ?_ _)); exact BK1147.out) hb); have n2_ := sk_' (pp_' (by repeat (first | (with_reducible first | exact HB.out | apply pa_' | apply pn_' | apply pd_' | refine pt_' ?_ GE1147.out) | exact HB.out)) hb); clear HO_6; clear BK1147; clear HB; have HO_6 := n0_; have BK1147 := n1_; have HB := n2_; clear n0_ n1_ n2_; (try clear hb); (try clear hb2); (try clear hk); (try clear hi)) | ((with_reducible refine gate_dst (N := 9) rfl ?_); refine box_event ?hg (N := 9) ?hd (cs := #[.int .i64 0, .int .i64 0]) (t := 134) ?hr ?_; (case hd => rfl); (case hg => rfl); (case hr => first | (go_simp; done) | (go_simp; rfl)); intro gb1151 hg w28 hbox hb; have n0_ := sk_' (xb_' (by (with_reducible repeat (first | apply ra_' | apply rn_' | apply rd1_')); exact HO_6.out) hb); have n1_ := sk_' (blk_below (g := gb1147) (o := .cells #[.int .i64 ((rd_T118 l0 x18_1).f0), .int .i64 ((rd_T118 l0 x18_1).f1), .int .i64 ((rd_T118 l0 x18_1).f2), .int .i64 ((rd_T118 l0 x18_1).f3)] 118 (0, 0)) (by (with_reducible repeat (first | refine kn_' ?_ _ | refine kd_' ?_ | refine ka_' ?_ _)); exact BK1147.out) hb); have n2_ := sk_' (pp_' (by repeat (first | (with_reducible first | exact HB.out | apply pa_' | apply pn_' | apply pd_' | refine pt_' ?_ GE1147.out) | exact HB.out)) hb); have n3_ := sk_' (hbox); have n4_ := sk_' ((by rw [hg]; exact (ps_' (by repeat (first | (with_reducible first | exact HB.out | apply pa_' | apply pn_' | apply pd_' | refine pt_' ?_ GE1147.out) | exact HB.out))) : w.heap.size ≤ gb1151)); have n5_ := sk_' ((by rw [hg]; exact (ps_' (by repeat (first | (with_reducible first | exact HB.out | apply pa_' | apply pn_' | apply pd_' | refine pt_' ?_ GE1147.out) | exact HB.out))) : w.heap.size ≤ gb1151)); have n6_ := sk_' ((by rw [hg]; exact Nat.ne_of_lt (blk_lt (g := gb1147) (o := .cells #[.int .i64 ((rd_T118 l0 x18_1).f0), .int .i64 ((rd_T118 l0 x18_1).f1), .int .i64 ((rd_T118 l0 x18_1).f2), .int .i64 ((rd_T118 l0 x18_1).f3)] 118 (0, 0)) (by (with_reducible repeat (first | refine kn_' ?_ _ | refine kd_' ?_ | refine ka_' ?_ _)); exact BK1147.out)) : gb1147 ≠ gb1151)); have n7_ := sk_' ((by rw [hg]; exact Nat.ne_of_gt (blk_lt (g := gb1147) (o := .cells #[.int .i64 ((rd_T118 l0 x18_1).f0), .int .i64 ((rd_T118 l0 x18_1).f1), .int .i64 ((rd_T118 l0 x18_1).f2), .int .i64 ((rd_T118 l0 x18_1).f3)] 118 (0, 0)) (by (with_reducible repeat (first | refine kn_' ?_ _ | refine kd_' ?_ | refine ka_' ?_ _)); exact BK1147.out)) : gb1151 ≠ gb1147)); clear HO_6; clear BK1147; clear HB; have HO_6 := n0_; have BK1147 := n1_; have HB := n2_; have BK1151 := n3_; have GW1151 := n4_; have GE1151 := n5_; have NB1147_1151 := n6_; have NB1151_1147 := n7_; clear n0_ n1_ n2_ n3_ n4_ n5_ n6_ n7_; clear hb hbox hg; have hnb29 := NB1151_1147.out; have hnc29 := NB1147_1151.out; have hcz30_0 : w28.cell? ⟨gb1151, 0, none⟩ = some (.int .i64 0) := (kc_' BK1151.out 0).trans rfl; have hcz30_1 : w28.cell? ⟨gb1151, 1, none⟩ = some (.int .i64 0) := (kc_' BK1151.out 1).trans rfl; have hfz30_0 := kf_' BK1151.out 0; have hfz30_1 := kf_' BK1151.out 1) | ((with_reducible refine gate_dst (N := 31) rfl ?_); refine Kd.R_lit k109 _ 109 ?hg (N := 31) ?hd (xs := ([] : List (S109))) (inner := []) (ok := fun _ => True) (okp := fun _ => True) ?hr ?hp (fun _ hk => hk) trivial (Below.refl _ _) (Nat.le_refl _) (by simp) ?_; (case hd => rfl); (case hg => rfl); (case hr => first | (go_simp; done) | (go_simp; rfl)); (case hp => exact (Reps.none _ _)); intro v1157 w31 ho32 hb hg_ hnew_; clear hg_ hnew_; (first | rw [← Ny1156.out] at ho32 | (simp only [Int.reduceToNat] at ho32; rw [← Ny1156.out] at ho32)); have n0_ := sk_' (Kd.R_elder' (by (with_reducible repeat (first | apply ra_' | apply rn_' | apply rd1_')); exact (xi_' (Kd.R_far (p := ⟨gb1151, 1, none⟩) (Kd.R_far (p := ⟨gb1151, 0, none⟩) (Kd.R_types HO_6.out BK1151.out (by decide)) (fun _ hk => hk.2) (.int .i64 t1148)) (fun _ hk => hk.2) (.int .i64 t1149)) (fun _ h_ => h_.1))) (Kd.R_base ho32) hb); have n1_ := sk_' (Kd.R_lower (Kd.R_new' ho32 (Kd.R_lt (by (with_reducible repeat (first | apply ra_' | apply rn_' | apply rd1_')); exact (xi_' (Kd.R_far (p := ⟨gb1151, 1, none⟩) (Kd.R_far (p := ⟨gb1151, 0, none⟩) (Kd.R_types HO_6.out BK1151.out (by decide)) (fun _ hk => hk.2) (.int .i64 t1148)) (fun _ hk => hk.2) (.int .i64 t1149)) (fun _ h_ => h_.1))))) (ps_' (by repeat (first | (with_reducible first | exact HB.out | apply pa_' | apply pn_' | apply pd_' | refine pt_' ?_ GE1147.out | refine pt_' ?_ GE1151.out) | exact HB.out)))); have n2_ := sk_' (blk_below (g := gb1147) (o := .cells #[.int .i64 ((rd_T118 l0 x18_1).f0), .int .i64 ((rd_T118 l0 x18_1).f1), .int .i64 ((rd_T118 l0 x18_1).f2), .int .i64 ((rd_T118 l0 x18_1).f3)] 118 (0, 0)) (by (with_reducible repeat (first | refine kn_' ?_ _ | refine kd_' ?_ | refine ka_' ?_ _)); refine blk_far ?_ NB1147_1151.out _; (with_reducible repeat (first | refine kn_' ?_ _ | refine kd_' ?_ | refine ka_' ?_ _)); refine blk_far ?_ NB1147_1151.out _; (with_reducible repeat (first | refine kn_' ?_ _ | refine kd_' ?_ | refine ka_' ?_ _)); exact BK1147.out) hb); have n3_ := sk_' (blk_below (g := gb1151) (o := .cells #[.int .i64 t1148, .int .i64 t1149] 134 (0, 0)) (by (with_reducible repeat (first | refine kn_' ?_ _ | refine kd_' ?_ | refine ka_' ?_ _)); refine blk_put (cs := #[.int .i64 t1148, .int .i64 0]) ?_ 1 _ rfl; (with_reducible repeat (first | refine kn_' ?_ _ | refine kd_' ?_ | refine ka_' ?_ _)); refine blk_put (cs := #[.int .i64 0, .int .i64 0]) ?_ 0 _ rfl; (with_reducible repeat (first | refine kn_' ?_ _ | refine kd_' ?_ | refine ka_' ?_ _)); exact BK1151.out) hb); have n4_ := sk_' (pp_' (by repeat (first | (with_reducible first | exact HB.out | apply pa_' | apply pn_' | apply pd_' | refine pt_' ?_ GE1147.out | refine pt_' ?_ GE1151.out) | exact HB.out)) hb); clear HO_6; clear BK1147; clear BK1151; clear HB; have HO_6 := n0_; have HO1158 := n1_; have BK1147 := n2_; have BK1151 := n3_; have HB := n4_; clear n0_ n1_ n2_ n3_ n4_; clear hb ho32))
       go_ret2
       exact ⟨_, by first | rfl | (simp [errW_none, errW_some] <;> rfl) | (simp [*, errW_none, errW_some] <;> rfl), by (with_reducible repeat (first | apply ra_' | apply rn_' | apply rd1_')); exact xi_' HO1158.out (fun _ hk => trivial), by repeat (first | (with_reducible first | exact HB.out | apply pa_' | apply pn_' | apply pd_' | refine pt_' ?_ GE1147.out | refine pt_' ?_ GE1151.out) | exact HB.out)⟩
      rw [if_neg c10] at H
      exact absurd H (by simp)
     rw [if_neg c9] at H
     exact absurd H (by simp)
    rw [if_neg c8] at H
    have c8b0 : decide (x18_1 < (l0.length : Int)) = false := decide_eq_false c8
    clear c8
    by_cases cl_ : x6_1.length < 4611686018427387904
    ·
     rw [if_pos cl_] at H
     simp only [Option.some.injEq, Prod.mk.injEq] at H
     obtain ⟨rfl, rfl⟩ := H
     have LCL := sk_' cl_
     clear cl_
     go_wp2_with (first | (go_at_call 117; refine (so_played _ _ _ _ HO_6.out LCL.out).mono ?_; rintro e w1_ ⟨rfl, ho1_, hb1_⟩; have HOs_ := sk_' ho1_; have HBs_ := sk_' (Below.trans HB.out hb1_); clear ho1_ hb1_))
     go_ret2
     exact ⟨_, by first | rfl | (simp [errW_none, errW_some] <;> rfl) | (simp [*, errW_none, errW_some] <;> rfl), by (with_reducible repeat (first | apply ra_' | apply rn_' | apply rd1_')); exact HOs_.out, by repeat (first | (with_reducible first | exact HBs_.out | apply pa_' | apply pn_' | apply pd_') | exact HBs_.out)⟩
    rw [if_neg cl_] at H
    exact absurd H (by simp)
 replace c4 := Bool.eq_false_iff.mpr c4
 subst c4
 rw [if_neg (show ¬ (false = true) by decide)] at H
 simp only [Option.some.injEq, Prod.mk.injEq] at H
 obtain ⟨rfl, rfl⟩ := H
 go_enter Try.func59, Try.ntmps59
 go_wp2_with (first | ((with_reducible refine gate_dst (N := 11) rfl ?_); refine Kd.R_lit k109 _ 109 ?hg (N := 11) ?hd (xs := ([] : List (S109))) (inner := []) (ok := fun _ => True) (okp := fun _ => True) ?hr ?hp (fun _ hk => hk) trivial (Below.refl _ _) (Nat.le_refl _) (by simp) ?_; (case hd => rfl); (case hg => rfl); (case hr => first | (go_simp; done) | (go_simp; rfl)); (case hp => exact (Reps.none _ _)); intro v1143 w33 ho34 hb hg_ hnew_; clear hg_ hnew_; (first | rw [← Ny1142.out] at ho34 | (simp only [Int.reduceToNat] at ho34; rw [← Ny1142.out] at ho34)); have n0_ := sk_' (Kd.R_lower ho34 (ps_' (by repeat (first | (with_reducible first | exact HB.out | apply pa_' | apply pn_' | apply pd_') | exact HB.out)))); have n1_ := sk_' (pp_' (by repeat (first | (with_reducible first | exact HB.out | apply pa_' | apply pn_' | apply pd_') | exact HB.out)) hb); clear HB; have HO1144 := n0_; have HB := n1_; clear n0_ n1_; clear hb ho34) | ((with_reducible refine xj_' (f := 97) rfl ?_); refine goesL_ (some 13) rfl rfl Try.func97 (by kernel_rfl) rfl #[.slice A0 l0.length c0] rfl (by (try simp only [xm_', xc_', xn_']); first | done | rfl | (simp only [xd_', xt_']; rfl)) ?_; (with_reducible refine (impl_IsScore.calls k _ _ l0 false _ ?side1 ?side2 A3.out).mono ?_); (case side1 => repeat (first | exact (Kd.C_below HR0.out HB.out) | (with_reducible refine xg_' ?_ _) | (with_reducible refine xe_' ?_ _) | (with_reducible refine xf_' ?_))); (case side2 => exact HC0.out); rintro e w35 ⟨rfl, hb⟩; refine ⟨_, rfl, ?_⟩; have n0_ := sk_' (xb_' (by (with_reducible repeat (first | apply ra_' | apply rn_' | apply rd1_')); exact HO1144.out) hb); have n1_ := sk_' (pp_' (by repeat (first | (with_reducible first | exact HB.out | apply pa_' | apply pn_' | apply pd_') | exact HB.out)) hb); clear HO1144; clear HB; have HO1144 := n0_; have HB := n1_; clear n0_ n1_; (try clear hb); (try clear hb2); (try clear hk); (try clear hi)))
 go_ret2
 exact ⟨_, by first | rfl | (simp [errW_none, errW_some] <;> rfl) | (simp [*, errW_none, errW_some] <;> rfl), by (with_reducible repeat (first | apply ra_' | apply rn_' | apply rd1_')); exact HO1144.out, by repeat (first | (with_reducible first | exact HB.out | apply pa_' | apply pn_' | apply pd_') | exact HB.out)⟩
end Go.Proofs.Ytiophiipmgpaeaa.F

namespace Go.Proofs.Ytiophiipmgpaeaa.F
open Go.RowKit Go.Proofs.YtiophiipmgpaeaaW.PrintWords Go.Proofs.YtiophiipmgpaeaaW.PrintLast Go.Proofs.YtiophiipmgpaeaaW.PrintMore
attribute [local go_sem] max2_int min2_int max_two min_two max_three min_three max_four min_four
set_option linter.unusedVariables false
set_option linter.unusedSimpArgs false
def laws_eqTempo.f (a0_0 : Int) (a0_1 : Int) (a1_0 : Int) (a1_1 : Int) : Option (Bool) := if a0_0 = a1_0 then (if a0_1 = a1_1 then (some true) else (some false)) else (some false)
set_option maxHeartbeats 8000000 in
set_option maxRecDepth 100000 in
theorem laws_eqTempo.calls (a0_0 : Int) (a0_1 : Int) (a1_0 : Int) (a1_1 : Int) (r : Bool) (w : World) (h : laws_eqTempo.f a0_0 a0_1 a1_0 a1_1 = some r) :
  Calls Try.prog 118 #[.agg #[.int .i64 a0_0, .int .i64 a0_1], .agg #[.int .i64 a1_0, .int .i64 a1_1]] w fun e w' => e = .returned (.bool r) ∧ Below w.heap.size w w' := by
 have hu140 := Try.underlying140
 have HB := sk_' (Below.refl w.heap.size w)
 have H : (if a0_0 = a1_0 then (if a0_1 = a1_1 then (some true) else (some false)) else (some false)) = some r := h
 clear h
 by_cases c3 : a0_0 = a1_0
 ·
  rw [if_pos c3] at H
  have c3b0 : (a0_0 == a1_0) = true := beq_iff_eq.mpr c3
  have c3b1 : (a0_0 != a1_0) = false := bne_eq_false_iff_eq.mpr c3
  clear c3
  by_cases c4 : a0_1 = a1_1
  ·
   rw [if_pos c4] at H
   have c4b0 : (a0_1 == a1_1) = true := beq_iff_eq.mpr c4
   have c4b1 : (a0_1 != a1_1) = false := bne_eq_false_iff_eq.mpr c4
   clear c4
   obtain rfl := Option.some.inj H
   go_enter Try.func118, Try.ntmps118
   go_wp2_with (first | ((with_reducible refine gate_dst (N := 2) rfl ?_); refine box_event ?hg (N := 2) ?hd (cs := #[.int .i64 a0_0, .int .i64 a0_1]) (t := 140) ?hr ?_; (case hd => rfl); (case hg => rfl); (case hr => first | (go_simp; done) | (go_simp; rfl)); intro gb1159 hg w5 hbox hb; have n0_ := sk_' (pp_' (bm HB) hb); have n1_ := sk_' (hbox); have n2_ := sk_' ((by rw [hg]; exact (ps_' (bm HB)) : w.heap.size ≤ gb1159)); have n3_ := sk_' ((by rw [hg]; exact (ps_' (bm HB)) : w.heap.size ≤ gb1159)); clear HB; have HB := n0_; have BK1159 := n1_; have GW1159 := n2_; have GE1159 := n3_; clear n0_ n1_ n2_ n3_; clear hb hbox hg) | ((with_reducible refine gate_dst (N := 3) rfl ?_); refine box_event ?hg (N := 3) ?hd (cs := #[.int .i64 a1_0, .int .i64 a1_1]) (t := 140) ?hr ?_; (case hd => rfl); (case hg => rfl); (case hr => first | (go_simp; done) | (go_simp; rfl)); intro gb1160 hg w6 hbox hb; have n0_ := sk_' (blk_below (g := gb1159) (o := .cells #[.int .i64 a0_0, .int .i64 a0_1] 140 (0, 0)) (km BK1159) hb); have n1_ := sk_' (pp_' (bm HB) hb); have n2_ := sk_' (hbox); have n3_ := sk_' ((by rw [hg]; exact (ps_' (bm HB)) : w.heap.size ≤ gb1160)); have n4_ := sk_' ((by rw [hg]; exact (ps_' (bm HB)) : w.heap.size ≤ gb1160)); have n5_ := sk_' ((by rw [hg]; exact Nat.ne_of_lt (blk_lt (g := gb1159) (o := .cells #[.int .i64 a0_0, .int .i64 a0_1] 140 (0, 0)) (km BK1159)) : gb1159 ≠ gb1160)); have n6_ := sk_' ((by rw [hg]; exact Nat.ne_of_gt (blk_lt (g := gb1159) (o := .cells #[.int .i64 a0_0, .int .i64 a0_1] 140 (0, 0)) (km BK1159)) : gb1160 ≠ gb1159)); clear BK1159; clear HB; have BK1159 := n0_; have HB := n1_; have BK1160 := n2_; have GW1160 := n3_; have GE1160 := n4_; have NB1159_1160 := n5_; have NB1160_1159 := n6_; clear n0_ n1_ n2_ n3_ n4_ n5_ n6_; clear hb hbox hg; have hnb7 := NB1159_1160.out; have hnc7 := NB1160_1159.out; have hcz8_0 : w6.cell? ⟨gb1159, 0, none⟩ = some (.int .i64 a0_0) := (kc_' BK1159.out 0).trans rfl; have hcz8_1 : w6.cell? ⟨gb1159, 1, none⟩ = some (.int .i64 a0_1) := (kc_' BK1159.out 1).trans rfl; have hfz8_0 := kf_' BK1159.out 0; have hfz8_1 := kf_' BK1159.out 1; have hcz9_0 : w6.cell? ⟨gb1160, 0, none⟩ = some (.int .i64 a1_0) := (kc_' BK1160.out 0).trans rfl; have hcz9_1 : w6.cell? ⟨gb1160, 1, none⟩ = some (.int .i64 a1_1) := (kc_' BK1160.out 1).trans rfl; have hfz9_0 := kf_' BK1160.out 0; have hfz9_1 := kf_' BK1160.out 1))
   go_ret
   exact ⟨rfl, bm HB⟩
  rw [if_neg c4] at H
  have c4b0 : (a0_1 == a1_1) = false := beq_eq_false_iff_ne.mpr c4
  have c4b1 : (a0_1 != a1_1) = true := bne_iff_ne.mpr c4
  obtain rfl := Option.some.inj H
  go_enter Try.func118, Try.ntmps118
  go_wp2_with (first | ((with_reducible refine gate_dst (N := 2) rfl ?_); refine box_event ?hg (N := 2) ?hd (cs := #[.int .i64 a0_0, .int .i64 a0_1]) (t := 140) ?hr ?_; (case hd => rfl); (case hg => rfl); (case hr => first | (go_simp; done) | (go_simp; rfl)); intro gb1159 hg w10 hbox hb; have n0_ := sk_' (pp_' (bm HB) hb); have n1_ := sk_' (hbox); have n2_ := sk_' ((by rw [hg]; exact (ps_' (bm HB)) : w.heap.size ≤ gb1159)); have n3_ := sk_' ((by rw [hg]; exact (ps_' (bm HB)) : w.heap.size ≤ gb1159)); clear HB; have HB := n0_; have BK1159 := n1_; have GW1159 := n2_; have GE1159 := n3_; clear n0_ n1_ n2_ n3_; clear hb hbox hg) | ((with_reducible refine gate_dst (N := 3) rfl ?_); refine box_event ?hg (N := 3) ?hd (cs := #[.int .i64 a1_0, .int .i64 a1_1]) (t := 140) ?hr ?_; (case hd => rfl); (case hg => rfl); (case hr => first | (go_simp; done) | (go_simp; rfl)); intro gb1160 hg w11 hbox hb; have n0_ := sk_' (blk_below (g := gb1159) (o := .cells #[.int .i64 a0_0, .int .i64 a0_1] 140 (0, 0)) (km BK1159) hb); have n1_ := sk_' (pp_' (bm HB) hb); have n2_ := sk_' (hbox); have n3_ := sk_' ((by rw [hg]; exact (ps_' (bm HB)) : w.heap.size ≤ gb1160)); have n4_ := sk_' ((by rw [hg]; exact (ps_' (bm HB)) : w.heap.size ≤ gb1160)); have n5_ := sk_' ((by rw [hg]; exact Nat.ne_of_lt (blk_lt (g := gb1159) (o := .cells #[.int .i64 a0_0, .int .i64 a0_1] 140 (0, 0)) (km BK1159)) : gb1159 ≠ gb1160)); have n6_ := sk_' ((by rw [hg]; exact Nat.ne_of_gt (blk_lt (g := gb1159) (o := .cells #[.int .i64 a0_0, .int .i64 a0_1] 140 (0, 0)) (km BK1159)) : gb1160 ≠ gb1159)); clear BK1159; clear HB; have BK1159 := n0_; have HB := n1_; have BK1160 := n2_; have GW1160 := n3_; have GE1160 := n4_; have NB1159_1160 := n5_; have NB1160_1159 := n6_; clear n0_ n1_ n2_ n3_ n4_ n5_ n6_; clear hb hbox hg; have hnb12 := NB1159_1160.out; have hnc12 := NB1160_1159.out; have hcz13_0 : w11.cell? ⟨gb1159, 0, none⟩ = some (.int .i64 a0_0) := (kc_' BK1159.out 0).trans rfl; have hcz13_1 : w11.cell? ⟨gb1159, 1, none⟩ = some (.int .i64 a0_1) := (kc_' BK1159.out 1).trans rfl; have hfz13_0 := kf_' BK1159.out 0; have hfz13_1 := kf_' BK1159.out 1; have hcz14_0 : w11.cell? ⟨gb1160, 0, none⟩ = some (.int .i64 a1_0) := (kc_' BK1160.out 0).trans rfl; have hcz14_1 : w11.cell? ⟨gb1160, 1, none⟩ = some (.int .i64 a1_1) := (kc_' BK1160.out 1).trans rfl; have hfz14_0 := kf_' BK1160.out 0; have hfz14_1 := kf_' BK1160.out 1))
  go_ret
  exact ⟨rfl, bm HB⟩
 rw [if_neg c3] at H
 have c3b0 : (a0_0 == a1_0) = false := beq_eq_false_iff_ne.mpr c3
 have c3b1 : (a0_0 != a1_0) = true := bne_iff_ne.mpr c3
 obtain rfl := Option.some.inj H
 go_enter Try.func118, Try.ntmps118
 go_wp2_with (first | ((with_reducible refine gate_dst (N := 2) rfl ?_); refine box_event ?hg (N := 2) ?hd (cs := #[.int .i64 a0_0, .int .i64 a0_1]) (t := 140) ?hr ?_; (case hd => rfl); (case hg => rfl); (case hr => first | (go_simp; done) | (go_simp; rfl)); intro gb1159 hg w15 hbox hb; have n0_ := sk_' (pp_' (bm HB) hb); have n1_ := sk_' (hbox); have n2_ := sk_' ((by rw [hg]; exact (ps_' (bm HB)) : w.heap.size ≤ gb1159)); have n3_ := sk_' ((by rw [hg]; exact (ps_' (bm HB)) : w.heap.size ≤ gb1159)); clear HB; have HB := n0_; have BK1159 := n1_; have GW1159 := n2_; have GE1159 := n3_; clear n0_ n1_ n2_ n3_; clear hb hbox hg) | ((with_reducible refine gate_dst (N := 3) rfl ?_); refine box_event ?hg (N := 3) ?hd (cs := #[.int .i64 a1_0, .int .i64 a1_1]) (t := 140) ?hr ?_; (case hd => rfl); (case hg => rfl); (case hr => first | (go_simp; done) | (go_simp; rfl)); intro gb1160 hg w16 hbox hb; have n0_ := sk_' (blk_below (g := gb1159) (o := .cells #[.int .i64 a0_0, .int .i64 a0_1] 140 (0, 0)) (km BK1159) hb); have n1_ := sk_' (pp_' (bm HB) hb); have n2_ := sk_' (hbox); have n3_ := sk_' ((by rw [hg]; exact (ps_' (bm HB)) : w.heap.size ≤ gb1160)); have n4_ := sk_' ((by rw [hg]; exact (ps_' (bm HB)) : w.heap.size ≤ gb1160)); have n5_ := sk_' ((by rw [hg]; exact Nat.ne_of_lt (blk_lt (g := gb1159) (o := .cells #[.int .i64 a0_0, .int .i64 a0_1] 140 (0, 0)) (km BK1159)) : gb1159 ≠ gb1160)); have n6_ := sk_' ((by rw [hg]; exact Nat.ne_of_gt (blk_lt (g := gb1159) (o := .cells #[.int .i64 a0_0, .int .i64 a0_1] 140 (0, 0)) (km BK1159)) : gb1160 ≠ gb1159)); clear BK1159; clear HB; have BK1159 := n0_; have HB := n1_; have BK1160 := n2_; have GW1160 := n3_; have GE1160 := n4_; have NB1159_1160 := n5_; have NB1160_1159 := n6_; clear n0_ n1_ n2_ n3_ n4_ n5_ n6_; clear hb hbox hg; have hnb17 := NB1159_1160.out; have hnc17 := NB1160_1159.out; have hcz18_0 : w16.cell? ⟨gb1159, 0, none⟩ = some (.int .i64 a0_0) := (kc_' BK1159.out 0).trans rfl; have hcz18_1 : w16.cell? ⟨gb1159, 1, none⟩ = some (.int .i64 a0_1) := (kc_' BK1159.out 1).trans rfl; have hfz18_0 := kf_' BK1159.out 0; have hfz18_1 := kf_' BK1159.out 1; have hcz19_0 : w16.cell? ⟨gb1160, 0, none⟩ = some (.int .i64 a1_0) := (kc_' BK1160.out 0).trans rfl; have hcz19_1 : w16.cell? ⟨gb1160, 1, none⟩ = some (.int .i64 a1_1) := (kc_' BK1160.out 1).trans rfl; have hfz19_0 := kf_' BK1160.out 0; have hfz19_1 := kf_' BK1160.out 1))
 go_ret
 exact ⟨rfl, bm HB⟩
end Go.Proofs.Ytiophiipmgpaeaa.F

namespace Go.Proofs.Ytiophiipmgpaeaa.F
open Go.RowKit Go.Proofs.YtiophiipmgpaeaaW.PrintWords Go.Proofs.YtiophiipmgpaeaaW.PrintLast Go.Proofs.YtiophiipmgpaeaaW.PrintMore
attribute [local go_sem] max2_int min2_int max_two min_two max_three min_three max_four min_four
set_option linter.unusedVariables false
set_option linter.unusedSimpArgs false
def laws_eqTempoS.l0 : Nat → List (S140) → List (S140) → Int → Option (Bool)
 | 0, _, _, _ => none
 | k + 1, x0, x1, x5 => if x5 < (x0.length : Int) then (if 0 ≤ x5 then (if x5 < (x1.length : Int) then ((laws_eqTempo.f ((rd_T140 x0 x5).f0) ((rd_T140 x0 x5).f1) ((rd_T140 x1 x5).f0) ((rd_T140 x1 x5).f1)).bind fun t1163 => (if t1163 = true then (laws_eqTempoS.l0 k x0 x1 (wrap64 (x5 + 1))) else (some false))) else (none)) else (none)) else (some true)
def laws_eqTempoS.f (k : Nat) (l0 : List (S140)) (l1 : List (S140)) : Option (Bool) := if (l0.length : Int) = (l1.length : Int) then (laws_eqTempoS.l0 k l0 l1 0) else (some false)
def laws_eqTempoS.T6 : Bool × List (List Nat × List Nat) := (true, [([], []), ([], []), ([0, 1], [0, 1]), ([2], [2]), ([], []), ([], []), ([4, 5], [4, 5]), ([6], [6]), ([3, 7], [3, 7]), ([8], [8])])
def laws_eqTempoS.B6 : List Nat := [0, 0, 3, 7, 0, 0, 48, 112, 255, 511]
theorem laws_eqTempoS.tab6 : rtab .any (opsOf Try.f60 6) = laws_eqTempoS.T6 := by kernel_rfl
theorem laws_eqTempoS.bits6 : waitsOk laws_eqTempoS.T6.2 laws_eqTempoS.B6 = true := by kernel_rfl
set_option maxHeartbeats 8000000 in
set_option maxRecDepth 100000 in
theorem laws_eqTempoS.calls (k : Nat) (A0 : Option Addr) (c0 : Nat) (l0 : List (S140)) (A1 : Option Addr) (c1 : Nat) (l1 : List (S140)) (r : Bool) (w : World) (hr0 : Kd.C k140 w A0 l0.length l0) (hc0 : l0.length ≤ c0) (hr1 : Kd.C k140 w A1 l1.length l1) (hc1 : l1.length ≤ c1) (h : laws_eqTempoS.f k l0 l1 = some r) :
  Calls Try.prog 60 #[.slice A0 l0.length c0, .slice A1 l1.length c1] w fun e w' => e = .returned (.bool r) ∧ Below w.heap.size w w' := by
 have hu140 := Try.underlying140
 have HR0 := sk_' hr0
 have HC0 := sk_' hc0
 clear hr0 hc0
 have HR1 := sk_' hr1
 have HC1 := sk_' hc1
 clear hr1 hc1
 have HB := sk_' (Below.refl w.heap.size w)
 have H : (if (l0.length : Int) = (l1.length : Int) then (laws_eqTempoS.l0 k l0 l1 0) else (some false)) = some r := h
 clear h
 by_cases c3 : (l0.length : Int) = (l1.length : Int)
 ·
  rw [if_pos c3] at H
  have c3b0 : ((l0.length : Int) == (l1.length : Int)) = true := beq_iff_eq.mpr c3
  have c3b1 : ((l0.length : Int) != (l1.length : Int)) = false := bne_eq_false_iff_eq.mpr c3
  have c3b2 : (l0.length == l1.length) = true := by first | simpa using c3 | (simp at c3 ⊢; omega)
  clear c3
  have H' := sk_' H
  clear H
  go_enter Try.func60, Try.ntmps60
  go_wp2
  go_loopg [5] k (fun kq v5 w' => ∃ (x5_1 : Int), v5 = .int .i64 x5_1 ∧ Aside0 (laws_eqTempoS.l0 kq l0 l1 x5_1 = some r) ∧ Aside0 (kq ≤ k) ∧ Aside0 (Below w.heap.size w w'))
  case atStart => exact ⟨(0), rfl, H', ⟨Nat.le_refl _⟩, ⟨bm HB⟩⟩
  case round =>
   clear H'
   try clear c1
   try clear p2
   try clear c3
   try clear c3b0
   try clear c3b1
   try clear c3b2
   obtain ⟨x5_1, rfl, HA, HK1, HB⟩ := hrel
   cases gk with
   | zero => exact absurd HA.out (by simp [laws_eqTempoS.l0])
   | succ k1 =>
    have H := HA.out
    clear HA
    simp only [laws_eqTempoS.l0] at H
    by_cases c4 : x5_1 < (l0.length : Int)
    ·
     rw [if_pos c4] at H
     have c4b0 : decide (x5_1 < (l0.length : Int)) = true := decide_eq_true c4
     clear c4
     by_cases c5 : 0 ≤ x5_1
     ·
      rw [if_pos c5] at H
      have c5b0 : decide (0 ≤ x5_1) = true := decide_eq_true c5
      clear c5
      by_cases c6 : x5_1 < (l1.length : Int)
      ·
       rw [if_pos c6] at H
       have c6b0 : decide (x5_1 < (l1.length : Int)) = true := decide_eq_true c6
       clear c6
       replace H := bs_' H
       obtain ⟨t1163, A70, H⟩ := H
       try dsimp only at H
       have A7 := sk_' A70
       clear A70
       by_cases c8 : t1163 = true
       ·
        subst c8
        rw [if_pos rfl] at H
        have H' := sk_' H
        clear H
        try go_wp2
        have n0_ := sk_' (pd_' HB.out)
        clear HB
        have HB := n0_
        clear n0_
        have p1161 : 0 ≤ (x5_1 : Int) := od_' (by first | (with_reducible assumption) | assumption)
        have q1161 : x5_1 < (l0.length : Int) := od_' (by first | (with_reducible assumption) | assumption)
        obtain ⟨ad1161, e1161, hx1161_0, hx1161_1⟩ := at_T140 HR0.out x5_1 p1161 q1161
        have hw1161_1 := hx1161_1
        have hw1161_0 := hx1161_0
        cases e1161
        replace hx1161_0 := (HB.out.cell (bq_' w _ hx1161_0)).trans hx1161_0
        replace hx1161_1 := (HB.out.cell (bq_' w _ hx1161_1)).trans hx1161_1
        replace p1161 := eq_true p1161
        replace q1161 := eq_true q1161
        have p1162 : 0 ≤ (x5_1 : Int) := od_' (by first | (with_reducible assumption) | assumption)
        have q1162 : x5_1 < (l1.length : Int) := od_' (by first | (with_reducible assumption) | assumption)
        obtain ⟨ad1162, e1162, hx1162_0, hx1162_1⟩ := at_T140 HR1.out x5_1 p1162 q1162
        have hw1162_1 := hx1162_1
        have hw1162_0 := hx1162_0
        cases e1162
        replace hx1162_0 := (HB.out.cell (bq_' w _ hx1162_0)).trans hx1162_0
        replace hx1162_1 := (HB.out.cell (bq_' w _ hx1162_1)).trans hx1162_1
        replace p1162 := eq_true p1162
        replace q1162 := eq_true q1162
        refine BelowW.region (by kernel_rfl) (by kernel_rfl) ?_
        have hq0_ : wr.drew.cell? (ad1161.add ((x5_1).toNat * 2)) = some (.int .i64 ((rd_T140 l0 x5_1).f0)) := ((HB.out.cell (bq_' w _ hw1161_0)).trans hw1161_0)
        have hq1_ : wr.drew.cell? ⟨(ad1161.add ((x5_1).toNat * 2)).block, (ad1161.add ((x5_1).toNat * 2)).off + 1, none⟩ = some (.int .i64 ((rd_T140 l0 x5_1).f1)) := ((HB.out.cell (bq_' w _ hw1161_1)).trans hw1161_1)
        have hq2_ : wr.drew.cell? (ad1162.add ((x5_1).toNat * 2)) = some (.int .i64 ((rd_T140 l1 x5_1).f0)) := ((HB.out.cell (bq_' w _ hw1162_0)).trans hw1162_0)
        have hq3_ : wr.drew.cell? ⟨(ad1162.add ((x5_1).toNat * 2)).block, (ad1162.add ((x5_1).toNat * 2)).off + 1, none⟩ = some (.int .i64 ((rd_T140 l1 x5_1).f1)) := ((HB.out.cell (bq_' w _ hw1162_1)).trans hw1162_1)
        generalize wr.drew = w9 at HB hx1161_0 hx1161_1 hx1162_0 hx1162_1 hq0_ hq1_ hq2_ hq3_ ⊢
        replace hq0_ := BelowW.at hq0_
        replace hq1_ := BelowW.at hq1_
        replace hq2_ := BelowW.at hq2_
        replace hq3_ := BelowW.at hq3_
        change wpQuiet _ _ _ _ (List.cons _ _) _
        repeat (go_big_quiet_step (first | (go_at_call 118; (with_reducible refine (laws_eqTempo.calls ((rd_T140 l0 x5_1).f0) ((rd_T140 l0 x5_1).f1) ((rd_T140 l1 x5_1).f0) ((rd_T140 l1 x5_1).f1) true _ A7.out).mono ?_); exact fun _ _ h_ => ⟨h_.1, BelowW.step _ h_.2⟩)))
        refine wpQuiet_nil ?_
        intro w10 hb
        try simp only [i64_w, i32_w]
        clear hq0_ hq1_ hq2_ hq3_
        have n0_ := sk_' (pp_' (bm HB) hb)
        clear HB
        have HB := n0_
        clear n0_
        (try clear hb)
        (try clear hb2)
        (try clear hk)
        (try clear hi)
        try go_wp2
        go_roundg k1
        case measure => have := HK1.out; omega
        case rel => exact ⟨(wrap64 (x5_1 + 1)), rfl, H', ⟨by have := HK1.out; omega⟩, ⟨bm HB⟩⟩
       replace c8 := Bool.eq_false_iff.mpr c8
       subst c8
       rw [if_neg (show ¬ (false = true) by decide)] at H
       obtain rfl := Option.some.inj H
       try go_wp2
       have n0_ := sk_' (pd_' HB.out)
       clear HB
       have HB := n0_
       clear n0_
       have p1161 : 0 ≤ (x5_1 : Int) := od_' (by first | (with_reducible assumption) | assumption)
       have q1161 : x5_1 < (l0.length : Int) := od_' (by first | (with_reducible assumption) | assumption)
       obtain ⟨ad1161, e1161, hx1161_0, hx1161_1⟩ := at_T140 HR0.out x5_1 p1161 q1161
       have hw1161_1 := hx1161_1
       have hw1161_0 := hx1161_0
       cases e1161
       replace hx1161_0 := (HB.out.cell (bq_' w _ hx1161_0)).trans hx1161_0
       replace hx1161_1 := (HB.out.cell (bq_' w _ hx1161_1)).trans hx1161_1
       replace p1161 := eq_true p1161
       replace q1161 := eq_true q1161
       have p1162 : 0 ≤ (x5_1 : Int) := od_' (by first | (with_reducible assumption) | assumption)
       have q1162 : x5_1 < (l1.length : Int) := od_' (by first | (with_reducible assumption) | assumption)
       obtain ⟨ad1162, e1162, hx1162_0, hx1162_1⟩ := at_T140 HR1.out x5_1 p1162 q1162
       have hw1162_1 := hx1162_1
       have hw1162_0 := hx1162_0
       cases e1162
       replace hx1162_0 := (HB.out.cell (bq_' w _ hx1162_0)).trans hx1162_0
       replace hx1162_1 := (HB.out.cell (bq_' w _ hx1162_1)).trans hx1162_1
       replace p1162 := eq_true p1162
       replace q1162 := eq_true q1162
       refine BelowW.region (by kernel_rfl) (by kernel_rfl) ?_
       have hq0_ : wr.drew.cell? (ad1161.add ((x5_1).toNat * 2)) = some (.int .i64 ((rd_T140 l0 x5_1).f0)) := ((HB.out.cell (bq_' w _ hw1161_0)).trans hw1161_0)
       have hq1_ : wr.drew.cell? ⟨(ad1161.add ((x5_1).toNat * 2)).block, (ad1161.add ((x5_1).toNat * 2)).off + 1, none⟩ = some (.int .i64 ((rd_T140 l0 x5_1).f1)) := ((HB.out.cell (bq_' w _ hw1161_1)).trans hw1161_1)
       have hq2_ : wr.drew.cell? (ad1162.add ((x5_1).toNat * 2)) = some (.int .i64 ((rd_T140 l1 x5_1).f0)) := ((HB.out.cell (bq_' w _ hw1162_0)).trans hw1162_0)
       have hq3_ : wr.drew.cell? ⟨(ad1162.add ((x5_1).toNat * 2)).block, (ad1162.add ((x5_1).toNat * 2)).off + 1, none⟩ = some (.int .i64 ((rd_T140 l1 x5_1).f1)) := ((HB.out.cell (bq_' w _ hw1162_1)).trans hw1162_1)
       generalize wr.drew = w11 at HB hx1161_0 hx1161_1 hx1162_0 hx1162_1 hq0_ hq1_ hq2_ hq3_ ⊢
       replace hq0_ := BelowW.at hq0_
       replace hq1_ := BelowW.at hq1_
       replace hq2_ := BelowW.at hq2_
       replace hq3_ := BelowW.at hq3_
       change wpQuiet _ _ _ _ (List.cons _ _) _
       repeat (go_big_quiet_step (first | (go_at_call 118; (with_reducible refine (laws_eqTempo.calls ((rd_T140 l0 x5_1).f0) ((rd_T140 l0 x5_1).f1) ((rd_T140 l1 x5_1).f0) ((rd_T140 l1 x5_1).f1) false _ A7.out).mono ?_); exact fun _ _ h_ => ⟨h_.1, BelowW.step _ h_.2⟩)))
       refine wpQuiet_nil ?_
       intro w12 hb
       try simp only [i64_w, i32_w]
       clear hq0_ hq1_ hq2_ hq3_
       have n0_ := sk_' (pp_' (bm HB) hb)
       clear HB
       have HB := n0_
       clear n0_
       (try clear hb)
       (try clear hb2)
       (try clear hk)
       (try clear hi)
       try go_wp2
       go_ret
       exact ⟨rfl, bm HB⟩
      rw [if_neg c6] at H
      exact absurd H (by simp)
     rw [if_neg c5] at H
     exact absurd H (by simp)
    rw [if_neg c4] at H
    have c4b0 : decide (x5_1 < (l0.length : Int)) = false := decide_eq_false c4
    clear c4
    obtain rfl := Option.some.inj H
    go_wp2
    go_ret
    exact ⟨rfl, bm HB⟩
 rw [if_neg c3] at H
 have c3b0 : ((l0.length : Int) == (l1.length : Int)) = false := beq_eq_false_iff_ne.mpr c3
 have c3b1 : ((l0.length : Int) != (l1.length : Int)) = true := bne_iff_ne.mpr c3
 have c3b2 : (l0.length == l1.length) = false := by first | simpa using c3 | (simp at c3 ⊢; omega)
 obtain rfl := Option.some.inj H
 go_enter Try.func60, Try.ntmps60
 go_wp2
 go_ret
 exact ⟨rfl, bm HB⟩
end Go.Proofs.Ytiophiipmgpaeaa.F

namespace Go.Proofs.Ytiophiipmgpaeaa.F
open Go.RowKit Go.Proofs.YtiophiipmgpaeaaW.PrintWords Go.Proofs.YtiophiipmgpaeaaW.PrintLast Go.Proofs.YtiophiipmgpaeaaW.PrintMore
attribute [local go_sem] max2_int min2_int max_two min_two max_three min_three max_four min_four
set_option linter.unusedVariables false
set_option linter.unusedSimpArgs false
def laws_markTempoS.l0 : Nat → List (S140) → Int → Int → Option (Int × (List (S140)))
 | 0, _, _, _ => none
 | k + 1, x0, x1, x5 => if x5 < (x0.length : Int) then (if 0 ≤ x5 then ((some (x0.set (x5 : Int).toNat (⟨x1, (rd_T140 x0 x5).f1⟩ : S140) : List (S140))).bind fun y1164 => (laws_markTempoS.l0 k (y1164.set (x5 : Int).toNat (⟨(rd_T140 y1164 x5).f0, wrap64 (x1 + 1)⟩ : S140)) (wrap64 ((wrap64 (x1 + 1)) + 1)) (wrap64 (x5 + 1)))) else (none)) else (some (x1, x0))
def laws_markTempoS.f (k : Nat) (l0 : List (S140)) (a1 : Int) : Option (Int × (List (S140))) := laws_markTempoS.l0 k l0 a1 0
set_option maxHeartbeats 8000000 in
set_option maxRecDepth 100000 in
theorem laws_markTempoS.calls (k : Nat) (P0_ : Nat → Prop) (u9000_ : Value) (l0 : List (S140)) (a1 : Int) (r1 : Int) (r2 : List (S140)) (w0 w : World) (hB : Below w0.heap.size w0 w) (ho0 : Kd.R k140 140 w w0.heap.size P0_ u9000_ l0) (h : laws_markTempoS.f k l0 a1 = some (r1, r2)) :
  Calls Try.prog 61 #[u9000_, .int .i64 a1] w fun e w' => e = .returned (.int .i64 r1) ∧ Kd.R k140 140 w' w0.heap.size (fun k_ => (P0_ k_ ∨ w.heap.size ≤ k_)) u9000_ r2 ∧ Below w0.heap.size w0 w' ∧ Kept w w' (fun k_ => P0_ k_) := by
 have HO0 := sk_' (show Kd.R k140 140 w w0.heap.size (fun k_ => (P0_ k_ ∨ w.heap.size ≤ k_)) u9000_ l0 from xi_' ho0 (fun k_ hk => (.inl hk)))
 have HK := sk_' (Kept.refl w (fun k_ => P0_ k_))
 have HW0 := sk_' hB.size
 have HB := sk_' hB
 clear hB
 have H : (laws_markTempoS.l0 k l0 a1 0) = some (r1, r2) := h
 clear h
 have H' := sk_' H
 clear H
 go_enter Try.func61, Try.ntmps61
 go_wp2
 go_loopg [1, 5] k (fun kq v1 v5 w' => ∃ (x0_1 : List (S140)) (x1_1 : Int) (x5_1 : Int), v1 = .int .i64 x1_1 ∧ v5 = .int .i64 x5_1 ∧ Aside0 (laws_markTempoS.l0 kq x0_1 x1_1 x5_1 = some (r1, r2)) ∧ Aside0 (kq ≤ k) ∧ Aside0 (Kd.R k140 140 w' w0.heap.size (fun k_ => (P0_ k_ ∨ w.heap.size ≤ k_)) u9000_ x0_1) ∧ Aside0 (Kept w w' (fun k_ => P0_ k_)) ∧ Aside0 (Below w0.heap.size w0 w'))
 case atStart => exact ⟨(l0), (a1), (0), rfl, rfl, H', ⟨Nat.le_refl _⟩, ⟨rm HO0⟩, ⟨by repeat (first | (with_reducible first | exact HK.out | apply Kept.alloc | apply Kept.drewN | apply Kept.drew) | exact HK.out)⟩, ⟨bm HB⟩⟩
 case round =>
  clear H'
  try clear p2
  obtain ⟨x0_1, x1_1, x5_1, rfl, rfl, HA, HK1, HO_0, HK, HB⟩ := hrel
  cases gk with
  | zero => exact absurd HA.out (by simp [laws_markTempoS.l0])
  | succ k1 =>
   have H := HA.out
   clear HA
   simp only [laws_markTempoS.l0] at H
   by_cases c3 : x5_1 < (x0_1.length : Int)
   ·
    rw [if_pos c3] at H
    have c3b0 : decide (x5_1 < (x0_1.length : Int)) = true := decide_eq_true c3
    clear c3
    by_cases c4 : 0 ≤ x5_1
    ·
     rw [if_pos c4] at H
     have c4b0 : decide (0 ≤ x5_1) = true := decide_eq_true c4
     clear c4
     obtain ⟨y1164, hy1164⟩ : ∃ y_ : List (S140), y_ = (x0_1.set (x5_1 : Int).toNat (⟨x1_1, (rd_T140 x0_1 x5_1).f1⟩ : S140)) := ⟨_, rfl⟩
     replace H : (laws_markTempoS.l0 k1 (y1164.set (x5_1 : Int).toNat (⟨(rd_T140 y1164 x5_1).f0, wrap64 (x1_1 + 1)⟩ : S140)) (wrap64 ((wrap64 (x1_1 + 1)) + 1)) (wrap64 (x5_1 + 1))) = some (r1, r2) := by first | (rw [hy1164]; with_reducible exact H) | (have H2_ := (Option.bind_some _ _).symm.trans H; rw [hy1164]; with_reducible exact H2_) | (have H2_ := (Option.bind_some _ _).symm.trans H; with_reducible exact H2_) | with_reducible exact H | (rw [hy1164]; exact H) | exact H
     have Ny1164 := sk_' hy1164
     clear hy1164
     obtain ⟨y1165, hy1165⟩ : ∃ y_ : List (S140), y_ = (y1164.set (x5_1 : Int).toNat (⟨(rd_T140 y1164 x5_1).f0, wrap64 (x1_1 + 1)⟩ : S140)) := ⟨_, rfl⟩
     replace H : (laws_markTempoS.l0 k1 y1165 (wrap64 ((wrap64 (x1_1 + 1)) + 1)) (wrap64 (x5_1 + 1))) = some (r1, r2) := by first | (rw [hy1165]; with_reducible exact H) | (have H2_ := (Option.bind_some _ _).symm.trans H; rw [hy1165]; with_reducible exact H2_) | (have H2_ := (Option.bind_some _ _).symm.trans H; with_reducible exact H2_) | with_reducible exact H | (rw [hy1165]; exact H) | exact H
     have Ny1165 := sk_' hy1165
     clear hy1165
     have H' := sk_' H
     clear H
     obtain ⟨Ao7, co7, eo7⟩ := Kd.R_slice HO_0.out
     subst eo7
     have p5 : 0 ≤ (x5_1 : Int) := od_' (by first | (with_reducible assumption) | assumption)
     have q5 : (x5_1 : Int) < ((x0_1.length : Int) : Int) := od_' (by first | (with_reducible assumption) | assumption)
     obtain ⟨go5, co5, eo5, gb5, gl5, cl5, HG5⟩ := Kd.R_form HO_0.out (by omega)
     (first | cases eo5 | (injection eo5 with ea_ en_ ec_; (first | subst ea_ | (injection ea_ with ea_; subst ea_)); subst ec_; clear en_))
     have GB5 := sk_' gb5
     have GG5 := sk_' HG5
     clear gb5 gl5 HG5
     have HMgo5 := sk_' (show (P0_ go5 ∨ w.heap.size ≤ go5) from (HO_0.out.1 _ rfl))
     obtain ⟨ce5, hcl5, hM5, hcc5, hfr5⟩ := Kd.R_elem HO_0.out z140 (x5_1 : Int) p5 q5
     obtain rfl := k140_openM hM5
     have hx5_0 : wr.cell? ⟨go5, (x5_1 : Int).toNat * 2, none⟩ = some (.int .i64 ((rd_T140 x0_1 x5_1).f0)) := hcc5 0 _ rfl
     have hx5_1 : wr.cell? ⟨go5, (x5_1 : Int).toNat * 2 + 1, none⟩ = some (.int .i64 ((rd_T140 x0_1 x5_1).f1)) := hcc5 1 _ rfl
     have hf5_0 : wr.frozen? ⟨go5, (x5_1 : Int).toNat * 2, none⟩ = false := hfr5 0
     have hf5_1 : wr.frozen? ⟨go5, (x5_1 : Int).toNat * 2 + 1, none⟩ = false := hfr5 1
     clear hcl5 hcc5 hfr5 hM5
     replace p5 := eq_true p5
     replace q5 := eq_true q5
     have HX8 := sk_' (show Kd.R k140 140 wr w0.heap.size (fun k_ => (P0_ k_ ∨ w.heap.size ≤ k_)) (.slice (some ⟨go5, 0, none⟩) x0_1.length co7) x0_1 from (rm HO_0))
     obtain ⟨ce8, hcl8, hM8, hcc8, hfr8⟩ := Kd.R_elem HX8.out z140 (x5_1 : Int) (od_' (by first | (with_reducible assumption) | assumption)) (by have h_ : (x5_1 : Int) < ((x0_1.length : Int) : Int) := od_' (by first | (with_reducible assumption) | assumption); first | exact h_ | (have e_ := (xr_' HO_0.out).1; omega) | simpa using h_)
     obtain rfl := k140_openM hM8
     have HP8 := Kd.R_seg HX8.out (x5_1 : Int) (od_' (by first | (with_reducible assumption) | assumption)) (by have h_ : (x5_1 : Int) < ((x0_1.length : Int) : Int) := od_' (by first | (with_reducible assumption) | assumption); first | exact h_ | (have e_ := (xr_' HO_0.out).1; omega) | simpa using h_) (seg := [.int .i64 x1_1]) (j := 0) hcl8 hcc8 (show 1 ≤ 2 from by decide) (x' := (⟨x1_1, (rd_T140 x0_1 x5_1).f1⟩ : S140)) (k140_mkM _ _ _ (⟨x1_1, (rd_T140 x0_1 x5_1).f1⟩ : S140) ) (fun _ hk => hk)
     have hx8_0 := hcc8 0 _ rfl
     (try simp only [show (k140).sz = 2 from rfl, Nat.mul_one, Nat.add_zero] at hx8_0)
     have hf8_0 := hfr8 0
     (try simp only [show (k140).sz = 2 from rfl, Nat.mul_one, Nat.add_zero] at hf8_0)
     clear hcl8 hcc8 hfr8 hM8
     go_wp2_with (first | ((with_reducible refine gate_store (t := 3) (p := 16) rfl ?_); refine store_event (t := 3) (p := 16) (v := ?vo_w9) (w1 := (wr.setCell ⟨go5, (x5_1 : Int).toNat * 2, none⟩ (.int .i64 x1_1))) ?hg ?ho ?hn ?hr ?_; (case ho => rfl); (case hg => rfl); (case hn => rfl); (case hr => first | (go_simp; done) | (go_simp; rfl)); intro w9 hw; have hg : wr.grownBy w9 (some go5) := (by rw [hw]; exact HP8.2); have hp_ : Kd.R k140 140 w9 w0.heap.size (fun k_ => (P0_ k_ ∨ w.heap.size ≤ k_)) (.slice (some ⟨go5, 0, none⟩) x0_1.length co7) y1164 := (by rw [hw, Ny1164.out]; exact HP8.1); clear HP8; have n0_ := sk_' (hp_); have n1_ := sk_' ((by rw [hw]; exact pt_' (HB.out) GB5.out : Below w0.heap.size w0 w9)); have n2_ := sk_' (Kept.of_grown (S := (fun k_ => P0_ k_)) hg (by repeat (first | (with_reducible first | exact HK.out | apply Kept.alloc | apply Kept.drewN | apply Kept.drew) | exact HK.out)) (fun k_ e_ => (HO_0.out.1 k_ e_))); clear HO_0; clear HB; clear HK; have HO_0 := n0_; have HB := n1_; have HK := n2_; clear n0_ n1_ n2_; clear hg hw hp_; have p6 : 0 ≤ (x5_1 : Int) := od_' (by first | (with_reducible assumption) | assumption); have q6 : (x5_1 : Int) < ((x0_1.length : Int) : Int) := od_' (by first | (with_reducible assumption) | assumption); obtain ⟨ce6, hcl6, hM6, hcc6, hfr6⟩ := Kd.R_elem HO_0.out z140 (x5_1 : Int) p6 q6; obtain rfl := k140_openM hM6; have hx6_0 : w9.cell? ⟨go5, (x5_1 : Int).toNat * 2, none⟩ = some (.int .i64 ((rd_T140 y1164 x5_1).f0)) := hcc6 0 _ rfl; have hx6_1 : w9.cell? ⟨go5, (x5_1 : Int).toNat * 2 + 1, none⟩ = some (.int .i64 ((rd_T140 y1164 x5_1).f1)) := hcc6 1 _ rfl; have hf6_0 : w9.frozen? ⟨go5, (x5_1 : Int).toNat * 2, none⟩ = false := hfr6 0; have hf6_1 : w9.frozen? ⟨go5, (x5_1 : Int).toNat * 2 + 1, none⟩ = false := hfr6 1; clear hcl6 hcc6 hfr6 hM6; replace p6 := eq_true p6; replace q6 := eq_true q6; have HX10 := sk_' (show Kd.R k140 140 w9 w0.heap.size (fun k_ => (P0_ k_ ∨ w.heap.size ≤ k_)) (.slice (some ⟨go5, 0, none⟩) x0_1.length co7) y1164 from (rm HO_0)); obtain ⟨ce10, hcl10, hM10, hcc10, hfr10⟩ := Kd.R_elem HX10.out z140 (x5_1 : Int) (od_' (by first | (with_reducible assumption) | assumption)) (by have h_ : (x5_1 : Int) < ((x0_1.length : Int) : Int) := od_' (by first | (with_reducible assumption) | assumption); first | exact h_ | (have e_ := (xr_' HO_0.out).1; omega) | simpa using h_); obtain rfl := k140_openM hM10; have HP10 := Kd.R_seg HX10.out (x5_1 : Int) (od_' (by first | (with_reducible assumption) | assumption)) (by have h_ : (x5_1 : Int) < ((x0_1.length : Int) : Int) := od_' (by first | (with_reducible assumption) | assumption); first | exact h_ | (have e_ := (xr_' HO_0.out).1; omega) | simpa using h_) (seg := [.int .i64 (wrap64 (x1_1 + 1))]) (j := 1) hcl10 hcc10 (show 2 ≤ 2 from by decide) (x' := (⟨(rd_T140 y1164 x5_1).f0, wrap64 (x1_1 + 1)⟩ : S140)) (k140_mkM _ _ _ (⟨(rd_T140 y1164 x5_1).f0, wrap64 (x1_1 + 1)⟩ : S140) ) (fun _ hk => hk); have hx10_1 := hcc10 1 _ rfl; (try simp only [show (k140).sz = 2 from rfl, Nat.mul_one, Nat.add_zero] at hx10_1); have hf10_1 := hfr10 1; (try simp only [show (k140).sz = 2 from rfl, Nat.mul_one, Nat.add_zero] at hf10_1); clear hcl10 hcc10 hfr10 hM10) | ((with_reducible refine gate_store (t := 3) (p := 23) rfl ?_); refine store_event (t := 3) (p := 23) (v := ?vo_w11) (w1 := (w9.setCell ⟨go5, (x5_1 : Int).toNat * 2 + 1, none⟩ (.int .i64 (wrap64 (x1_1 + 1))))) ?hg ?ho ?hn ?hr ?_; (case ho => rfl); (case hg => rfl); (case hn => rfl); (case hr => first | (go_simp; done) | (go_simp; rfl)); intro w11 hw; have hg : w9.grownBy w11 (some go5) := (by rw [hw]; exact HP10.2); have hp_ : Kd.R k140 140 w11 w0.heap.size (fun k_ => (P0_ k_ ∨ w.heap.size ≤ k_)) (.slice (some ⟨go5, 0, none⟩) x0_1.length co7) y1165 := (by rw [hw, Ny1165.out]; exact HP10.1); clear HP10; have n0_ := sk_' (hp_); have n1_ := sk_' ((by rw [hw]; exact pt_' (HB.out) GB5.out : Below w0.heap.size w0 w11)); have n2_ := sk_' (Kept.of_grown (S := (fun k_ => P0_ k_)) hg (by repeat (first | (with_reducible first | exact HK.out | apply Kept.alloc | apply Kept.drewN | apply Kept.drew) | exact HK.out)) (fun k_ e_ => (HO_0.out.1 k_ e_))); clear HO_0; clear HB; clear HK; have HO_0 := n0_; have HB := n1_; have HK := n2_; clear n0_ n1_ n2_; clear hg hw hp_))
     go_roundg k1
     case measure => have := HK1.out; omega
     case rel => exact ⟨(y1165), (wrap64 ((wrap64 (x1_1 + 1)) + 1)), (wrap64 (x5_1 + 1)), rfl, rfl, H', ⟨by have := HK1.out; omega⟩, ⟨rm HO_0⟩, ⟨by repeat (first | (with_reducible first | exact HK.out | apply Kept.alloc | apply Kept.drewN | apply Kept.drew) | exact HK.out)⟩, ⟨bm HB⟩⟩
    rw [if_neg c4] at H
    exact absurd H (by simp)
   rw [if_neg c3] at H
   have c3b0 : decide (x5_1 < (x0_1.length : Int)) = false := decide_eq_false c3
   clear c3
   simp only [Option.some.injEq, Prod.mk.injEq] at H
   obtain ⟨rfl, rfl⟩ := H
   obtain ⟨Ao12, co12, eo12⟩ := Kd.R_slice HO_0.out
   subst eo12
   go_wp2
   go_ret
   exact ⟨rfl, rm HO_0, bm HB, by repeat (first | (with_reducible first | exact HK.out | apply Kept.alloc | apply Kept.drewN | apply Kept.drew) | exact HK.out)⟩
end Go.Proofs.Ytiophiipmgpaeaa.F
