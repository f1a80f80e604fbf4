/- FnPerformances, part 5 of 7: texts of the claim, joined into one file. -/
import Derived.Test.YtbhlmeghbfmgiaaZFnPerformances4

namespace Go.Proofs.Ytbhlmeghbfmgiaa.F
open Go.RowKit Go.Proofs.YtbhlmeghbfmgiaaW.PrintWords Go.Proofs.YtbhlmeghbfmgiaaW.PrintLast Go.Proofs.YtbhlmeghbfmgiaaW.PrintMore
attribute [local go_sem] max2_int min2_int max_two min_two max_three min_three max_four min_four
set_option linter.unusedVariables false
set_option linter.unusedSimpArgs false
def spec_l14Put.l0 : Nat → List (S49) → Int → Int → Int → Option ((List (S49)))
 | 0, _, _, _, _ => none
 | k + 1, x0, x5, x724000, x724001 => if x5 > 0 then (if 0 ≤ (wrap64 (x5 - 1)) then (if (wrap64 (x5 - 1)) < (x0.length : Int) then (if ((rd_T49 x0 (wrap64 (x5 - 1))).f0) > x724000 then (spec_l14Put.l0 k x0 (wrap64 (x5 - 1)) x724000 x724001) else (if ((rd_T49 x0 (wrap64 (x5 - 1))).f0) = x724000 then (if ((rd_T49 x0 (wrap64 (x5 - 1))).f1) > x724001 then (spec_l14Put.l0 k x0 (wrap64 (x5 - 1)) x724000 x724001) else ((some (([] : List (S49)) : List (S49))).bind fun y727 => (if 0 ≤ x5 then (if x5 ≤ (x0.length : Int) then ((some (x0.take (x5 : Int).toNat : List (S49))).bind fun y730 => (if y727.length + y730.length < 8796093022208 then ((some (y727 ++ y730 : List (S49))).bind fun y734 => ((some (([(⟨x724000, x724001⟩ : S49)] : List (S49)) : List (S49))).bind fun y737 => (if y734.length + y737.length < 8796093022208 then ((some (y734 ++ y737 : List (S49))).bind fun y740 => ((some (x0.drop (x5 : Int).toNat : List (S49))).bind fun y743 => (if y740.length + y743.length < 8796093022208 then (some (y740 ++ y743)) else (none)))) else (none)))) else (none))) else (none)) else (none)))) else ((some (([] : List (S49)) : List (S49))).bind fun y750 => (if 0 ≤ x5 then (if x5 ≤ (x0.length : Int) then ((some (x0.take (x5 : Int).toNat : List (S49))).bind fun y753 => (if y750.length + y753.length < 8796093022208 then ((some (y750 ++ y753 : List (S49))).bind fun y757 => ((some (([(⟨x724000, x724001⟩ : S49)] : List (S49)) : List (S49))).bind fun y760 => (if y757.length + y760.length < 8796093022208 then ((some (y757 ++ y760 : List (S49))).bind fun y763 => ((some (x0.drop (x5 : Int).toNat : List (S49))).bind fun y766 => (if y763.length + y766.length < 8796093022208 then (some (y763 ++ y766)) else (none)))) else (none)))) else (none))) else (none)) else (none))))) else (none)) else (none)) else ((some (([] : List (S49)) : List (S49))).bind fun y773 => (if 0 ≤ x5 then (if x5 ≤ (x0.length : Int) then ((some (x0.take (x5 : Int).toNat : List (S49))).bind fun y776 => (if y773.length + y776.length < 8796093022208 then ((some (y773 ++ y776 : List (S49))).bind fun y780 => ((some (([(⟨x724000, x724001⟩ : S49)] : List (S49)) : List (S49))).bind fun y783 => (if y780.length + y783.length < 8796093022208 then ((some (y780 ++ y783 : List (S49))).bind fun y786 => ((some (x0.drop (x5 : Int).toNat : List (S49))).bind fun y789 => (if y786.length + y789.length < 8796093022208 then (some (y786 ++ y789)) else (none)))) else (none)))) else (none))) else (none)) else (none)))
def spec_l14Put.f (k : Nat) (l0 : List (S49)) (a1_0 : Int) (a1_1 : Int) : Option ((List (S49))) := spec_l14Put.l0 k l0 (l0.length : Int) a1_0 a1_1
def spec_l14Put.T4 : Bool × List (List Nat × List Nat) := (true, [([], []), ([], []), ([], []), ([1, 2], [1, 2]), ([0, 3], [0, 3]), ([], []), ([5], [5]), ([4, 6, 4], [4, 6]), ([], []), ([], []), ([8, 9], [8, 9]), ([7, 10, 7], [7, 10]), ([11, 11, 0, 1, 2, 3, 4, 5, 6, 7, 8, 9, 10, 11], [11])])
def spec_l14Put.B4 : List Nat := [0, 0, 0, 6, 15, 0, 32, 127, 0, 0, 768, 2047, 4095]
theorem spec_l14Put.tab4 : rtab .any (opsOf Try.f99 4) = spec_l14Put.T4 := by kernel_rfl
theorem spec_l14Put.bits4 : waitsOk spec_l14Put.T4.2 spec_l14Put.B4 = true := by kernel_rfl
set_option maxHeartbeats 8000000 in
set_option maxRecDepth 100000 in
theorem spec_l14Put.calls (k : Nat) (A0 : Option Addr) (c0 : Nat) (l0 : List (S49)) (a1_0 : Int) (a1_1 : Int) (r : List (S49)) (w : World) (hr0 : Kd.C k49 w A0 l0.length l0) (hc0 : l0.length ≤ c0) (h : spec_l14Put.f k l0 a1_0 a1_1 = some r) :
  Calls Try.prog 99 #[.slice A0 l0.length c0, .agg #[.int .i64 a1_0, .int .i64 a1_1]] w fun e w' => ∃ v0_ : Value, e = .returned (v0_) ∧ Kd.R k49 49 w' w.heap.size (fun _ => True) v0_ r ∧ Below w.heap.size w w' := by
 have hu49 := Try.underlying49
 have HR0 := sk_' hr0
 have HC0 := sk_' hc0
 clear hr0 hc0
 have HB := sk_' (Below.refl w.heap.size w)
 have H : (spec_l14Put.l0 k l0 (l0.length : Int) a1_0 a1_1) = some r := h
 clear h
 have H' := sk_' H
 clear H
 go_enter Try.func99, Try.ntmps99
 go_wp2_with (first | ((with_reducible refine gate_dst (N := 3) rfl ?_); refine box_event ?hg (N := 3) ?hd (cs := #[.int .i64 a1_0, .int .i64 a1_1]) (t := 49) ?hr ?_; (case hd => rfl); (case hg => rfl); (case hr => first | (go_simp; done) | (go_simp; rfl)); intro gb723 hg w3 hbox hb; have n0_ := sk_' (pp_' (by repeat (first | (with_reducible first | exact HB.out | apply pa_' | apply pn_' | apply pd_') | exact HB.out)) hb); have n1_ := sk_' (hbox); have n2_ := sk_' ((by rw [hg]; exact (ps_' (by repeat (first | (with_reducible first | exact HB.out | apply pa_' | apply pn_' | apply pd_') | exact HB.out))) : w.heap.size ≤ gb723)); have n3_ := sk_' ((by rw [hg]; exact (ps_' (by repeat (first | (with_reducible first | exact HB.out | apply pa_' | apply pn_' | apply pd_') | exact HB.out))) : w.heap.size ≤ gb723)); clear HB; have HB := n0_; have BK723 := n1_; have GW723 := n2_; have GE723 := n3_; clear n0_ n1_ n2_ n3_; clear hb hbox hg))
 go_loopg [5] k (fun kq v5 w' => ∃ (x5_1 : Int), v5 = .int .i64 x5_1 ∧ Aside0 (spec_l14Put.l0 kq l0 x5_1 a1_0 a1_1 = some r) ∧ Aside0 (kq ≤ k) ∧ Aside0 (w'.heap[gb723]? = some (.cells #[.int .i64 a1_0, .int .i64 a1_1] 49 (0, 0))) ∧ Aside0 (Below w.heap.size w w'))
 case atStart => exact ⟨((l0.length : Int)), (by first | rfl | (simp; done) | (simp [*]; done)), H', ⟨Nat.le_refl _⟩, ⟨by (with_reducible repeat (first | refine kn_' ?_ _ | refine kd_' ?_ | refine ka_' ?_ _)); exact BK723.out⟩, ⟨by repeat (first | (with_reducible first | exact HB.out | apply pa_' | apply pn_' | apply pd_' | refine pt_' ?_ GE723.out) | exact HB.out)⟩⟩
 case round =>
  clear H'
  try clear p2
  obtain ⟨x5_1, rfl, HA, HK1, BK723, HB⟩ := hrel
  cases gk with
  | zero => exact absurd HA.out (by simp [spec_l14Put.l0])
  | succ k1 =>
   have H := HA.out
   clear HA
   simp only [spec_l14Put.l0] at H
   by_cases c4 : x5_1 > 0
   ·
    rw [if_pos c4] at H
    have c4b0 : decide (0 < x5_1) = true := decide_eq_true c4
    clear c4
    obtain ⟨ji5, hji5⟩ : ∃ j_ : Int, (wrap64 (x5_1 - 1)) = j_ := ⟨_, rfl⟩
    replace H : (if 0 ≤ (ji5) then (if (ji5) < (l0.length : Int) then (if ((rd_T49 l0 (ji5)).f0) > a1_0 then (spec_l14Put.l0 k1 l0 ji5 a1_0 a1_1) else (if ((rd_T49 l0 (ji5)).f0) = a1_0 then (if ((rd_T49 l0 (ji5)).f1) > a1_1 then (spec_l14Put.l0 k1 l0 ji5 a1_0 a1_1) else ((some (([] : List (S49)) : List (S49))).bind fun y727 => (if 0 ≤ x5_1 then (if x5_1 ≤ (l0.length : Int) then ((some (l0.take (x5_1 : Int).toNat : List (S49))).bind fun y730 => (if y727.length + y730.length < 8796093022208 then ((some (y727 ++ y730 : List (S49))).bind fun y734 => ((some (([(⟨a1_0, a1_1⟩ : S49)] : List (S49)) : List (S49))).bind fun y737 => (if y734.length + y737.length < 8796093022208 then ((some (y734 ++ y737 : List (S49))).bind fun y740 => ((some (l0.drop (x5_1 : Int).toNat : List (S49))).bind fun y743 => (if y740.length + y743.length < 8796093022208 then (some (y740 ++ y743)) else (none)))) else (none)))) else (none))) else (none)) else (none)))) else ((some (([] : List (S49)) : List (S49))).bind fun y750 => (if 0 ≤ x5_1 then (if x5_1 ≤ (l0.length : Int) then ((some (l0.take (x5_1 : Int).toNat : List (S49))).bind fun y753 => (if y750.length + y753.length < 8796093022208 then ((some (y750 ++ y753 : List (S49))).bind fun y757 => ((some (([(⟨a1_0, a1_1⟩ : S49)] : List (S49)) : List (S49))).bind fun y760 => (if y757.length + y760.length < 8796093022208 then ((some (y757 ++ y760 : List (S49))).bind fun y763 => ((some (l0.drop (x5_1 : Int).toNat : List (S49))).bind fun y766 => (if y763.length + y766.length < 8796093022208 then (some (y763 ++ y766)) else (none)))) else (none)))) else (none))) else (none)) else (none))))) else (none)) else (none)) = some r := by first | (rw [hji5] at H; exact H) | (simp only [hji5] at H ⊢; exact H)
    have hji5w : (IntKind.i64.wrap (x5_1 - 1)) = ji5 := (i64_w _).trans hji5
    by_cases c6 : 0 ≤ (ji5)
    ·
     rw [if_pos c6] at H
     have c6b0 : decide (0 ≤ (ji5)) = true := decide_eq_true c6
     clear c6
     by_cases c7 : (ji5) < (l0.length : Int)
     ·
      rw [if_pos c7] at H
      have c7b0 : decide ((ji5) < (l0.length : Int)) = true := decide_eq_true c7
      clear c7
      by_cases c8 : ((rd_T49 l0 (ji5)).f0) > a1_0
      ·
       rw [if_pos c8] at H
       have c8b0 : decide (a1_0 < ((rd_T49 l0 (ji5)).f0)) = true := decide_eq_true c8
       clear c8
       have H' := sk_' H
       clear H
       try go_wp2
       have n0_ := sk_' (kd_' BK723.out)
       have n1_ := sk_' (pd_' HB.out)
       clear BK723
       clear HB
       have BK723 := n0_
       have HB := n1_
       clear n0_ n1_
       have p724 : 0 ≤ ((ji5) : Int) := od_' (by first | (with_reducible assumption) | assumption)
       have q724 : (ji5) < (l0.length : Int) := od_' (by first | (with_reducible assumption) | assumption)
       obtain ⟨ad724, e724, hx724_0, hx724_1⟩ := at_T49 HR0.out (ji5) p724 q724
       have hw724_1 := hx724_1
       have hw724_0 := hx724_0
       cases e724
       replace hx724_0 := (HB.out.cell (bq_' w _ hx724_0)).trans hx724_0
       replace hx724_1 := (HB.out.cell (bq_' w _ hx724_1)).trans hx724_1
       replace p724 := eq_true p724
       replace q724 := eq_true q724
       have hq0_ : wr.cell? ⟨gb723, 0, none⟩ = some (.int .i64 a1_0) := (kc_' BK723.out 0).trans rfl
       have hq1_ : wr.cell? ⟨gb723, 1, none⟩ = some (.int .i64 a1_1) := (kc_' BK723.out 1).trans rfl
       have hq2_ : wr.cell? (ad724.add (((ji5)).toNat * 2)) = some (.int .i64 ((rd_T49 l0 (ji5)).f0)) := ((HB.out.cell (bq_' w _ hw724_0)).trans hw724_0)
       have hq3_ : wr.cell? ⟨(ad724.add (((ji5)).toNat * 2)).block, (ad724.add (((ji5)).toNat * 2)).off + 1, none⟩ = some (.int .i64 ((rd_T49 l0 (ji5)).f1)) := ((HB.out.cell (bq_' w _ hw724_1)).trans hw724_1)
       go_quiet (fail)
       have nBK723_ := sk_' (kn_' (w := wr) BK723.out nq)
       have nHB_ := sk_' (pn_' (W := wr) ⟨HB.out.os, HB.out.tape, HB.out.output, HB.out.size, HB.out.block⟩ nq)
       have nhx724_0_ : (wr.drewN nq).cell? _ = _ := hx724_0
       have nhx724_1_ : (wr.drewN nq).cell? _ = _ := hx724_1
       clear BK723 HB hx724_0 hx724_1 hq0_ hq1_ hq2_ hq3_
       have BK723 := nBK723_
       have HB := nHB_
       have hx724_0 := nhx724_0_
       have hx724_1 := nhx724_1_
       clear nBK723_ nHB_ nhx724_0_ nhx724_1_
       generalize wr.drewN nq = w9 at BK723 HB hx724_0 hx724_1 ⊢
       try go_wp2
       go_roundg k1
       case measure => have := HK1.out; omega
       case rel => exact ⟨(ji5), (by first | rfl | (simp; done) | (simp only [← hji5] <;> (first | rfl | simp)) | (simp [*]; done)), H', ⟨by have := HK1.out; omega⟩, ⟨by (with_reducible repeat (first | refine kn_' ?_ _ | refine kd_' ?_ | refine ka_' ?_ _)); exact BK723.out⟩, ⟨by repeat (first | (with_reducible first | exact HB.out | apply pa_' | apply pn_' | apply pd_' | refine pt_' ?_ GE723.out) | exact HB.out)⟩⟩
      rw [if_neg c8] at H
      have c8b0 : decide (a1_0 < ((rd_T49 l0 (ji5)).f0)) = false := decide_eq_false c8
      clear c8
      by_cases c10 : ((rd_T49 l0 (ji5)).f0) = a1_0
      ·
       rw [if_pos c10] at H
       have c10b0 : (((rd_T49 l0 (ji5)).f0) == a1_0) = true := beq_iff_eq.mpr c10
       have c10b1 : (((rd_T49 l0 (ji5)).f0) != a1_0) = false := bne_eq_false_iff_eq.mpr c10
       clear c10
       by_cases c11 : ((rd_T49 l0 (ji5)).f1) > a1_1
       ·
        rw [if_pos c11] at H
        have c11b0 : decide (a1_1 < ((rd_T49 l0 (ji5)).f1)) = true := decide_eq_true c11
        clear c11
        have H' := sk_' H
        clear H
        try go_wp2
        have n0_ := sk_' (kd_' BK723.out)
        have n1_ := sk_' (pd_' HB.out)
        clear BK723
        clear HB
        have BK723 := n0_
        have HB := n1_
        clear n0_ n1_
        have p724 : 0 ≤ ((ji5) : Int) := od_' (by first | (with_reducible assumption) | assumption)
        have q724 : (ji5) < (l0.length : Int) := od_' (by first | (with_reducible assumption) | assumption)
        obtain ⟨ad724, e724, hx724_0, hx724_1⟩ := at_T49 HR0.out (ji5) p724 q724
        have hw724_1 := hx724_1
        have hw724_0 := hx724_0
        cases e724
        replace hx724_0 := (HB.out.cell (bq_' w _ hx724_0)).trans hx724_0
        replace hx724_1 := (HB.out.cell (bq_' w _ hx724_1)).trans hx724_1
        replace p724 := eq_true p724
        replace q724 := eq_true q724
        have p725 : 0 ≤ ((ji5) : Int) := od_' (by first | (with_reducible assumption) | assumption)
        have q725 : (ji5) < (l0.length : Int) := od_' (by first | (with_reducible assumption) | assumption)
        obtain ⟨ad725, e725, hx725_0, hx725_1⟩ := at_T49 HR0.out (ji5) p725 q725
        have hw725_1 := hx725_1
        have hw725_0 := hx725_0
        obtain rfl : ad724 = ad725 := (by injection e725)
        replace hx725_0 := (HB.out.cell (bq_' w _ hx725_0)).trans hx725_0
        replace hx725_1 := (HB.out.cell (bq_' w _ hx725_1)).trans hx725_1
        replace p725 := eq_true p725
        replace q725 := eq_true q725
        have p726 : 0 ≤ ((ji5) : Int) := od_' (by first | (with_reducible assumption) | assumption)
        have q726 : (ji5) < (l0.length : Int) := od_' (by first | (with_reducible assumption) | assumption)
        obtain ⟨ad726, e726, hx726_0, hx726_1⟩ := at_T49 HR0.out (ji5) p726 q726
        have hw726_1 := hx726_1
        have hw726_0 := hx726_0
        obtain rfl : ad724 = ad726 := (by injection e726)
        replace hx726_0 := (HB.out.cell (bq_' w _ hx726_0)).trans hx726_0
        replace hx726_1 := (HB.out.cell (bq_' w _ hx726_1)).trans hx726_1
        replace p726 := eq_true p726
        replace q726 := eq_true q726
        have hq0_ : wr.cell? ⟨gb723, 0, none⟩ = some (.int .i64 a1_0) := (kc_' BK723.out 0).trans rfl
        have hq1_ : wr.cell? ⟨gb723, 1, none⟩ = some (.int .i64 a1_1) := (kc_' BK723.out 1).trans rfl
        have hq2_ : wr.cell? (ad724.add (((ji5)).toNat * 2)) = some (.int .i64 ((rd_T49 l0 (ji5)).f0)) := ((HB.out.cell (bq_' w _ hw724_0)).trans hw724_0)
        have hq3_ : wr.cell? ⟨(ad724.add (((ji5)).toNat * 2)).block, (ad724.add (((ji5)).toNat * 2)).off + 1, none⟩ = some (.int .i64 ((rd_T49 l0 (ji5)).f1)) := ((HB.out.cell (bq_' w _ hw724_1)).trans hw724_1)
        have hq4_ : wr.cell? (ad724.add (((ji5)).toNat * 2)) = some (.int .i64 ((rd_T49 l0 (ji5)).f0)) := ((HB.out.cell (bq_' w _ hw725_0)).trans hw725_0)
        have hq5_ : wr.cell? ⟨(ad724.add (((ji5)).toNat * 2)).block, (ad724.add (((ji5)).toNat * 2)).off + 1, none⟩ = some (.int .i64 ((rd_T49 l0 (ji5)).f1)) := ((HB.out.cell (bq_' w _ hw725_1)).trans hw725_1)
        have hq6_ : wr.cell? (ad724.add (((ji5)).toNat * 2)) = some (.int .i64 ((rd_T49 l0 (ji5)).f0)) := ((HB.out.cell (bq_' w _ hw726_0)).trans hw726_0)
        have hq7_ : wr.cell? ⟨(ad724.add (((ji5)).toNat * 2)).block, (ad724.add (((ji5)).toNat * 2)).off + 1, none⟩ = some (.int .i64 ((rd_T49 l0 (ji5)).f1)) := ((HB.out.cell (bq_' w _ hw726_1)).trans hw726_1)
        go_quiet (fail)
        have nBK723_ := sk_' (kn_' (w := wr) BK723.out nq)
        have nHB_ := sk_' (pn_' (W := wr) ⟨HB.out.os, HB.out.tape, HB.out.output, HB.out.size, HB.out.block⟩ nq)
        have nhx724_0_ : (wr.drewN nq).cell? _ = _ := hx724_0
        have nhx724_1_ : (wr.drewN nq).cell? _ = _ := hx724_1
        have nhx725_0_ : (wr.drewN nq).cell? _ = _ := hx725_0
        have nhx725_1_ : (wr.drewN nq).cell? _ = _ := hx725_1
        have nhx726_0_ : (wr.drewN nq).cell? _ = _ := hx726_0
        have nhx726_1_ : (wr.drewN nq).cell? _ = _ := hx726_1
        clear BK723 HB hx724_0 hx724_1 hx725_0 hx725_1 hx726_0 hx726_1 hq0_ hq1_ hq2_ hq3_ hq4_ hq5_ hq6_ hq7_
        have BK723 := nBK723_
        have HB := nHB_
        have hx724_0 := nhx724_0_
        have hx724_1 := nhx724_1_
        have hx725_0 := nhx725_0_
        have hx725_1 := nhx725_1_
        have hx726_0 := nhx726_0_
        have hx726_1 := nhx726_1_
        clear nBK723_ nHB_ nhx724_0_ nhx724_1_ nhx725_0_ nhx725_1_ nhx726_0_ nhx726_1_
        generalize wr.drewN nq = w12 at BK723 HB hx724_0 hx724_1 hx725_0 hx725_1 hx726_0 hx726_1 ⊢
        try go_wp2
        go_roundg k1
        case measure => have := HK1.out; omega
        case rel => exact ⟨(ji5), (by first | rfl | (simp; done) | (simp only [← hji5] <;> (first | rfl | simp)) | (simp [*]; done)), H', ⟨by have := HK1.out; omega⟩, ⟨by (with_reducible repeat (first | refine kn_' ?_ _ | refine kd_' ?_ | refine ka_' ?_ _)); exact BK723.out⟩, ⟨by repeat (first | (with_reducible first | exact HB.out | apply pa_' | apply pn_' | apply pd_' | refine pt_' ?_ GE723.out) | exact HB.out)⟩⟩
       rw [if_neg c11] at H
       have c11b0 : decide (a1_1 < ((rd_T49 l0 (ji5)).f1)) = false := decide_eq_false c11
       clear c11
       obtain ⟨y727, hy727⟩ : ∃ y_ : List (S49), y_ = (([] : List (S49))) := ⟨_, rfl⟩
       replace H : (if 0 ≤ x5_1 then (if x5_1 ≤ (l0.length : Int) then ((some (l0.take (x5_1 : Int).toNat : List (S49))).bind fun y730 => (if y727.length + y730.length < 8796093022208 then ((some (y727 ++ y730 : List (S49))).bind fun y734 => ((some (([(⟨a1_0, a1_1⟩ : S49)] : List (S49)) : List (S49))).bind fun y737 => (if y734.length + y737.length < 8796093022208 then ((some (y734 ++ y737 : List (S49))).bind fun y740 => ((some (l0.drop (x5_1 : Int).toNat : List (S49))).bind fun y743 => (if y740.length + y743.length < 8796093022208 then (some (y740 ++ y743)) else (none)))) else (none)))) else (none))) else (none)) else (none)) = some r := by first | (rw [hy727]; with_reducible exact H) | (have H2_ := (Option.bind_some _ _).symm.trans H; rw [hy727]; with_reducible exact H2_) | (have H2_ := (Option.bind_some _ _).symm.trans H; with_reducible exact H2_) | with_reducible exact H | (rw [hy727]; exact H) | exact H
       have Ny727 := sk_' hy727
       clear hy727
       by_cases c13 : 0 ≤ x5_1
       ·
        rw [if_pos c13] at H
        have c13b0 := eq_true c13
        have c13b1 : decide (0 ≤ x5_1) = true := decide_eq_true c13
        clear c13
        by_cases c14 : x5_1 ≤ (l0.length : Int)
        ·
         rw [if_pos c14] at H
         have c14b0 := eq_true c14
         have c14b1 : decide (x5_1 ≤ (l0.length : Int)) = true := decide_eq_true c14
         clear c14
         obtain ⟨y730, hy730⟩ : ∃ y_ : List (S49), y_ = (l0.take (x5_1 : Int).toNat) := ⟨_, rfl⟩
         replace H : (if y727.length + y730.length < 8796093022208 then ((some (y727 ++ y730 : List (S49))).bind fun y734 => ((some (([(⟨a1_0, a1_1⟩ : S49)] : List (S49)) : List (S49))).bind fun y737 => (if y734.length + y737.length < 8796093022208 then ((some (y734 ++ y737 : List (S49))).bind fun y740 => ((some (l0.drop (x5_1 : Int).toNat : List (S49))).bind fun y743 => (if y740.length + y743.length < 8796093022208 then (some (y740 ++ y743)) else (none)))) else (none)))) else (none)) = some r := by first | (rw [hy730]; with_reducible exact H) | (have H2_ := (Option.bind_some _ _).symm.trans H; rw [hy730]; with_reducible exact H2_) | (have H2_ := (Option.bind_some _ _).symm.trans H; with_reducible exact H2_) | with_reducible exact H | (rw [hy730]; exact H) | exact H
         have Ny730 := sk_' hy730
         clear hy730
         by_cases c15 : y727.length + y730.length < 8796093022208
         ·
          rw [if_pos c15] at H
          have LMc15 := sk_' c15
          clear c15
          obtain ⟨y734, hy734⟩ : ∃ y_ : List (S49), y_ = (y727 ++ y730) := ⟨_, rfl⟩
          replace H : ((some (([(⟨a1_0, a1_1⟩ : S49)] : List (S49)) : List (S49))).bind fun y737 => (if y734.length + y737.length < 8796093022208 then ((some (y734 ++ y737 : List (S49))).bind fun y740 => ((some (l0.drop (x5_1 : Int).toNat : List (S49))).bind fun y743 => (if y740.length + y743.length < 8796093022208 then (some (y740 ++ y743)) else (none)))) else (none))) = some r := by first | (rw [hy734]; with_reducible exact H) | (have H2_ := (Option.bind_some _ _).symm.trans H; rw [hy734]; with_reducible exact H2_) | (have H2_ := (Option.bind_some _ _).symm.trans H; with_reducible exact H2_) | with_reducible exact H | (rw [hy734]; exact H) | exact H
          have Ny734 := sk_' hy734
          clear hy734
          obtain ⟨y737, hy737⟩ : ∃ y_ : List (S49), y_ = (([(⟨a1_0, a1_1⟩ : S49)] : List (S49))) := ⟨_, rfl⟩
          replace H : (if y734.length + y737.length < 8796093022208 then ((some (y734 ++ y737 : List (S49))).bind fun y740 => ((some (l0.drop (x5_1 : Int).toNat : List (S49))).bind fun y743 => (if y740.length + y743.length < 8796093022208 then (some (y740 ++ y743)) else (none)))) else (none)) = some r := by first | (rw [hy737]; with_reducible exact H) | (have H2_ := (Option.bind_some _ _).symm.trans H; rw [hy737]; with_reducible exact H2_) | (have H2_ := (Option.bind_some _ _).symm.trans H; with_reducible exact H2_) | with_reducible exact H | (rw [hy737]; exact H) | exact H
          have Ny737 := sk_' hy737
          clear hy737
          by_cases c16 : y734.length + y737.length < 8796093022208
          ·
           rw [if_pos c16] at H
           have LMc16 := sk_' c16
           clear c16
           obtain ⟨y740, hy740⟩ : ∃ y_ : List (S49), y_ = (y734 ++ y737) := ⟨_, rfl⟩
           replace H : ((some (l0.drop (x5_1 : Int).toNat : List (S49))).bind fun y743 => (if y740.length + y743.length < 8796093022208 then (some (y740 ++ y743)) else (none))) = some r := by first | (rw [hy740]; with_reducible exact H) | (have H2_ := (Option.bind_some _ _).symm.trans H; rw [hy740]; with_reducible exact H2_) | (have H2_ := (Option.bind_some _ _).symm.trans H; with_reducible exact H2_) | with_reducible exact H | (rw [hy740]; exact H) | exact H
           have Ny740 := sk_' hy740
           clear hy740
           have c17b0 := eq_true (od_' (by first | (with_reducible assumption) | assumption) : 0 ≤ x5_1)
           have c18b0 := eq_true (od_' (by first | (with_reducible assumption) | assumption) : x5_1 ≤ (l0.length : Int))
           obtain ⟨y743, hy743⟩ : ∃ y_ : List (S49), y_ = (l0.drop (x5_1 : Int).toNat) := ⟨_, rfl⟩
           replace H : (if y740.length + y743.length < 8796093022208 then (some (y740 ++ y743)) else (none)) = some r := by first | (rw [hy743]; with_reducible exact H) | (have H2_ := (Option.bind_some _ _).symm.trans H; rw [hy743]; with_reducible exact H2_) | (have H2_ := (Option.bind_some _ _).symm.trans H; with_reducible exact H2_) | with_reducible exact H | (rw [hy743]; exact H) | exact H
           have Ny743 := sk_' hy743
           clear hy743
           by_cases c19 : y740.length + y743.length < 8796093022208
           ·
            rw [if_pos c19] at H
            have LMc19 := sk_' c19
            clear c19
            obtain ⟨y747, hy747⟩ : ∃ y_ : List (S49), y_ = (y740 ++ y743) := ⟨_, rfl⟩
            replace H : (some y747) = some r := by first | (rw [hy747]; with_reducible exact H) | (have H2_ := (Option.bind_some _ _).symm.trans H; rw [hy747]; with_reducible exact H2_) | (have H2_ := (Option.bind_some _ _).symm.trans H; with_reducible exact H2_) | with_reducible exact H | (rw [hy747]; exact H) | exact H
            have Ny747 := sk_' hy747
            clear hy747
            obtain rfl := Option.some.inj H
            try go_wp2
            have n0_ := sk_' (kd_' BK723.out)
            have n1_ := sk_' (pd_' HB.out)
            clear BK723
            clear HB
            have BK723 := n0_
            have HB := n1_
            clear n0_ n1_
            have p724 : 0 ≤ ((ji5) : Int) := od_' (by first | (with_reducible assumption) | assumption)
            have q724 : (ji5) < (l0.length : Int) := od_' (by first | (with_reducible assumption) | assumption)
            obtain ⟨ad724, e724, hx724_0, hx724_1⟩ := at_T49 HR0.out (ji5) p724 q724
            have hw724_1 := hx724_1
            have hw724_0 := hx724_0
            cases e724
            replace hx724_0 := (HB.out.cell (bq_' w _ hx724_0)).trans hx724_0
            replace hx724_1 := (HB.out.cell (bq_' w _ hx724_1)).trans hx724_1
            replace p724 := eq_true p724
            replace q724 := eq_true q724
            have p725 : 0 ≤ ((ji5) : Int) := od_' (by first | (with_reducible assumption) | assumption)
            have q725 : (ji5) < (l0.length : Int) := od_' (by first | (with_reducible assumption) | assumption)
            obtain ⟨ad725, e725, hx725_0, hx725_1⟩ := at_T49 HR0.out (ji5) p725 q725
            have hw725_1 := hx725_1
            have hw725_0 := hx725_0
            obtain rfl : ad724 = ad725 := (by injection e725)
            replace hx725_0 := (HB.out.cell (bq_' w _ hx725_0)).trans hx725_0
            replace hx725_1 := (HB.out.cell (bq_' w _ hx725_1)).trans hx725_1
            replace p725 := eq_true p725
            replace q725 := eq_true q725
            have p726 : 0 ≤ ((ji5) : Int) := od_' (by first | (with_reducible assumption) | assumption)
            have q726 : (ji5) < (l0.length : Int) := od_' (by first | (with_reducible assumption) | assumption)
            obtain ⟨ad726, e726, hx726_0, hx726_1⟩ := at_T49 HR0.out (ji5) p726 q726
            have hw726_1 := hx726_1
            have hw726_0 := hx726_0
            obtain rfl : ad724 = ad726 := (by injection e726)
            replace hx726_0 := (HB.out.cell (bq_' w _ hx726_0)).trans hx726_0
            replace hx726_1 := (HB.out.cell (bq_' w _ hx726_1)).trans hx726_1
            replace p726 := eq_true p726
            replace q726 := eq_true q726
            have hq0_ : wr.cell? ⟨gb723, 0, none⟩ = some (.int .i64 a1_0) := (kc_' BK723.out 0).trans rfl
            have hq1_ : wr.cell? ⟨gb723, 1, none⟩ = some (.int .i64 a1_1) := (kc_' BK723.out 1).trans rfl
            have hq2_ : wr.cell? (ad724.add (((ji5)).toNat * 2)) = some (.int .i64 ((rd_T49 l0 (ji5)).f0)) := ((HB.out.cell (bq_' w _ hw724_0)).trans hw724_0)
            have hq3_ : wr.cell? ⟨(ad724.add (((ji5)).toNat * 2)).block, (ad724.add (((ji5)).toNat * 2)).off + 1, none⟩ = some (.int .i64 ((rd_T49 l0 (ji5)).f1)) := ((HB.out.cell (bq_' w _ hw724_1)).trans hw724_1)
            have hq4_ : wr.cell? (ad724.add (((ji5)).toNat * 2)) = some (.int .i64 ((rd_T49 l0 (ji5)).f0)) := ((HB.out.cell (bq_' w _ hw725_0)).trans hw725_0)
            have hq5_ : wr.cell? ⟨(ad724.add (((ji5)).toNat * 2)).block, (ad724.add (((ji5)).toNat * 2)).off + 1, none⟩ = some (.int .i64 ((rd_T49 l0 (ji5)).f1)) := ((HB.out.cell (bq_' w _ hw725_1)).trans hw725_1)
            have hq6_ : wr.cell? (ad724.add (((ji5)).toNat * 2)) = some (.int .i64 ((rd_T49 l0 (ji5)).f0)) := ((HB.out.cell (bq_' w _ hw726_0)).trans hw726_0)
            have hq7_ : wr.cell? ⟨(ad724.add (((ji5)).toNat * 2)).block, (ad724.add (((ji5)).toNat * 2)).off + 1, none⟩ = some (.int .i64 ((rd_T49 l0 (ji5)).f1)) := ((HB.out.cell (bq_' w _ hw726_1)).trans hw726_1)
            go_quiet (fail)
            have nBK723_ := sk_' (kn_' (w := wr) BK723.out nq)
            have nHB_ := sk_' (pn_' (W := wr) ⟨HB.out.os, HB.out.tape, HB.out.output, HB.out.size, HB.out.block⟩ nq)
            have nhx724_0_ : (wr.drewN nq).cell? _ = _ := hx724_0
            have nhx724_1_ : (wr.drewN nq).cell? _ = _ := hx724_1
            have nhx725_0_ : (wr.drewN nq).cell? _ = _ := hx725_0
            have nhx725_1_ : (wr.drewN nq).cell? _ = _ := hx725_1
            have nhx726_0_ : (wr.drewN nq).cell? _ = _ := hx726_0
            have nhx726_1_ : (wr.drewN nq).cell? _ = _ := hx726_1
            clear BK723 HB hx724_0 hx724_1 hx725_0 hx725_1 hx726_0 hx726_1 hq0_ hq1_ hq2_ hq3_ hq4_ hq5_ hq6_ hq7_
            have BK723 := nBK723_
            have HB := nHB_
            have hx724_0 := nhx724_0_
            have hx724_1 := nhx724_1_
            have hx725_0 := nhx725_0_
            have hx725_1 := nhx725_1_
            have hx726_0 := nhx726_0_
            have hx726_1 := nhx726_1_
            clear nBK723_ nHB_ nhx724_0_ nhx724_1_ nhx725_0_ nhx725_1_ nhx726_0_ nhx726_1_
            generalize wr.drewN nq = w20 at BK723 HB hx724_0 hx724_1 hx725_0 hx725_1 hx726_0 hx726_1 ⊢
            try go_wp2
            have n0_ := sk_' (kd_' BK723.out)
            have n1_ := sk_' (pd_' HB.out)
            clear BK723
            clear HB
            have BK723 := n0_
            have HB := n1_
            clear n0_ n1_
            have q22 : (x5_1 : Int) ≤ ((l0.length : Int) : Int) := od_' (by first | (with_reducible assumption) | assumption)
            obtain ⟨i022, hi022, _, hsz22, _⟩ := info_parts info49
            have hroom22 : l0.length ≤ c0 := HC0.out
            have hC22 : Kd.C k49 _ (some ad724) l0.length l0 := HR0.out
            have hcut22 := cut_to (P := Try.prog) 44 49 .i64 Try.underlying44 hi022 (some ad724) l0.length c0 x5_1 (od_' (by first | (with_reducible assumption) | assumption)) q22 hroom22
            have hr22 := Kd.C_take (m := (x5_1 : Int).toNat) hC22 (by omega)
            have hy22 : y730.length = (x5_1 : Int).toNat := (by rw [Ny730.out, xt_']; omega)
            rw [← Ny730.out] at hr22
            rw [← hy22] at hcut22
            have HR733 := sk_' hr22
            have HC733 := sk_' (show y730.length ≤ c0 from by omega)
            clear hr22 hC22 hroom22 hi022 hsz22
            have KY22 := sk_' hy22
            clear hy22
            replace q22 := eq_true q22
            have q23 : (x5_1 : Int) ≤ ((l0.length : Int) : Int) := od_' (by first | (with_reducible assumption) | assumption)
            obtain ⟨i023, hi023, _, hsz23, _⟩ := info_parts info49
            have hroom23 : l0.length ≤ c0 := HC0.out
            have hC23 : Kd.C k49 _ (some ad724) l0.length l0 := HR0.out
            have q023 : (0 : Int) ≤ (x5_1 : Int) := od_' (by first | (with_reducible assumption) | assumption)
            have hcut23 := cut_from (P := Try.prog) 44 49 .i64 Try.underlying44 hi023 2 hsz23 (some ad724) l0.length c0 x5_1 q023 q23
            have hr23 := Kd.C_drop (m := (x5_1 : Int).toNat) (c := c0) hC23 (by omega) hroom23
            obtain ⟨A23, hA23⟩ : ∃ A1, A1 = (if c0 = (x5_1 : Int).toNat then (some ad724) else ((some ad724) : Option Addr).map (·.add ((x5_1 : Int).toNat * 2))) := ⟨_, rfl⟩
            obtain ⟨c23, hc23⟩ : ∃ c1, c1 = c0 - (x5_1 : Int).toNat := ⟨_, rfl⟩
            have hy23 : y743.length = l0.length - (x5_1 : Int).toNat := (by rw [Ny743.out, xd_'] <;> omega)
            rw [show (l0).drop (x5_1 : Int).toNat = y743 from Ny743.out.symm] at hr23
            replace hr23 : Kd.C k49 _ A23 y743.length y743 := (by rw [hA23]; exact hr23)
            rw [← hy23, ← hA23, ← hc23] at hcut23
            have HR746 := sk_' hr23
            have HC746 := sk_' (show y743.length ≤ c23 from by rw [hy23, hc23]; exact Nat.sub_le_sub_right hroom23 _)
            clear hr23 hC23 hroom23 hi023 hsz23 hc23
            have KY23 := sk_' hy23
            have KA23 := sk_' hA23
            clear hy23 hA23
            replace q23 := eq_true q23
            refine start_ (n := 13) (S := fun w' => w'.cell? ⟨gb723, 0, none⟩ = some (.int .i64 a1_0) ∧ w'.cell? ⟨gb723, 1, none⟩ = some (.int .i64 a1_1)) (ds := []) #[false, false, false, false, false, false, false, false, false, false, false, false, false] (by kernel_rfl) rfl rfl ⟨(kc_' BK723.out 0).trans rfl, (kc_' BK723.out 1).trans rfl⟩ (fun hHeld => ?_); refine with_tabW spec_l14Put.tab4 spec_l14Put.bits4 (fun HT_ HW_ => ?_)
            generalize w20.drew = w21 at BK723 HB HR733 HR746 hHeld ⊢
            refine pure_ (i := 1) (N := some 46) (v := ?_) (a' := ?_) #[false, true, false, false, false, false, false, false, false, false, false, false, false] rfl rfl (any_of HT_.out (by kernel_rfl)) (fun _ _ _ h => h) (Or.inl ⟨by rfl, ?_⟩) ?_ ?_
            rotate_left
            ·
             intro w'
             go_simp
             with_reducible rfl
            rotate_left
            ·
             simp only [Act.put, sa_', sz_', sc_', i64_w, i32_w]
             rfl
            refine pure_ (i := 2) (N := some 47) (v := ?_) (a' := ?_) #[false, true, true, false, false, false, false, false, false, false, false, false, false] rfl rfl (any_of HT_.out (by kernel_rfl)) (fun _ _ _ h => h) (Or.inl ⟨by rfl, ?_⟩) ?_ ?_
            rotate_left
            ·
             intro w'
             go_simp
             with_reducible rfl
            rotate_left
            ·
             simp only [Act.put, sa_', sz_', sc_', i64_w, i32_w]
             rfl
            refine pure_ (i := 3) (N := some 48) (v := ?_) (a' := ?_) #[false, true, true, true, false, false, false, false, false, false, false, false, false] rfl rfl (any_of HT_.out (by kernel_rfl)) (fun _ _ _ h => h) (Or.inl ⟨by rfl, ?_⟩) ?_ ?_
            rotate_left
            ·
             intro w'
             go_simp
             with_reducible rfl
            rotate_left
            ·
             simp only [Act.put, sa_', sz_', sc_', i64_w, i32_w]
             rfl
            refine pure_ (i := 8) (N := some 53) (v := ?_) (a' := ?_) #[false, true, true, true, false, false, false, false, true, false, false, false, false] rfl rfl (any_of HT_.out (by kernel_rfl)) (fun _ _ _ h => h) (Or.inl ⟨by rfl, ?_⟩) ?_ ?_
            rotate_left
            ·
             intro w'
             go_simp
             with_reducible rfl
            rotate_left
            ·
             simp only [Act.put, sa_', sz_', sc_', i64_w, i32_w]
             rfl
            refine pure_ (i := 9) (N := some 54) (v := ?_) (a' := ?_) #[false, true, true, true, false, false, false, false, true, true, false, false, false] rfl rfl (any_of HT_.out (by kernel_rfl)) (fun _ _ _ h => h) (Or.inl ⟨by rfl, ?_⟩) ?_ ?_
            rotate_left
            ·
             intro w'
             go_simp
             with_reducible rfl
            rotate_left
            ·
             simp only [Act.put, sa_', sz_', sc_', i64_w, i32_w]
             rfl
            refine pure_ (i := 10) (N := some 55) (v := ?_) (a' := ?_) #[false, true, true, true, false, false, false, false, true, true, true, false, false] rfl rfl (any_of HT_.out (by kernel_rfl)) (fun _ _ _ h => h) (Or.inl ⟨by rfl, ?_⟩) ?_ ?_
            rotate_left
            ·
             intro w'
             go_simp
             with_reducible rfl
            rotate_left
            ·
             simp only [Act.put, sa_', sz_', sc_', i64_w, i32_w]
             rfl
            refine take_ (i := 5) (N := some 50) (v := ?_) (a' := ?_) #[false, true, true, true, false, true, false, false, true, true, true, false, false] rfl rfl (take_ofW HT_.out HW_.out (by kernel_rfl)) (fun _ _ _ h => h) (Or.inl ⟨by rfl, ?_⟩) hHeld ?_ ?_
            rotate_left
            ·
             rintro w' ⟨s0, s1⟩
             go_simp
             with_reducible rfl
            rotate_left
            ·
             simp only [Act.put, sa_', sz_', sc_', i64_w, i32_w]
             rfl
            refine join_ (σ := Value × Value × Value) 3 #[true, true, true, true, true, true, true, false, true, true, true, false, false] (fun s_ => [(45, s_.1), (49, s_.2.1), (51, s_.2.2)]) (fun s_ w' => (w'.cell? ⟨gb723, 0, none⟩ = some (.int .i64 a1_0) ∧ w'.cell? ⟨gb723, 1, none⟩ = some (.int .i64 a1_1)) ∧ (Kd.R k49 49 w' w.heap.size (fun k_ => some k_ ≠ (s_.2.2 : Value).ownBlock ∧ k_ ≠ gb723) s_.2.1 y734) ∧ (Kd.R k49 49 w' w.heap.size (fun k_ => some k_ ≠ (s_.2.1 : Value).ownBlock ∧ k_ ≠ gb723) s_.2.2 y737) ∧ (w'.heap[gb723]? = some (.cells #[.int .i64 a1_0, .int .i64 a1_1] 49 (0, 0))) ∧ (Below w.heap.size w w')) ?_ ?_
            rotate_left
            ·
             intro hCont
             refine two_ (i := 0) (j := 6) (Ni := some 45) (Nj := some 51) #[true, true, true, true, false, true, false, false, true, true, true, false, false] #[false, true, true, true, false, true, true, false, true, true, true, false, false] rfl rfl rfl rfl (two_of HT_.out (by kernel_rfl)) (by decide) (by decide) (fun K hK => ?_) (fun K hK => ?_)
             ·
              skip
              refine Kd.R_lit_step k49 _ 49 ?hg (N := 45) ?hd (xs := ([] : List (S49))) (inner := []) (ok := fun _ => True) (okp := fun _ => True) ?hr ?hp (fun _ hk => hk) trivial (Below.refl _ _) (Nat.le_refl _) (by simp) ?_; (case hd => rfl); (case hg => rfl); (case hr => first | (go_simp; done) | (go_simp; rfl)); (case hp => exact (Reps.none _ _))
              intro v728 w24 ho25 hb hg_ hnew_
              clear hg_ hnew_
              (first | rw [← Ny727.out] at ho25 | (simp only [Int.reduceToNat] at ho25; rw [← Ny727.out] at ho25))
              have n0_ := sk_' (Kd.R_lower (Kd.R_newB ho25 (g := gb723) (o := .cells #[.int .i64 a1_0, .int .i64 a1_1] 49 (0, 0)) (by (with_reducible repeat (first | refine kn_' ?_ _ | refine kd_' ?_ | refine ka_' ?_ _)); exact BK723.out)) (ps_' (by repeat (first | (with_reducible first | exact HB.out | apply pa_' | apply pn_' | apply pd_' | refine pt_' ?_ GE723.out) | exact HB.out))))
              have n1_ := sk_' (blk_below (g := gb723) (o := .cells #[.int .i64 a1_0, .int .i64 a1_1] 49 (0, 0)) (by (with_reducible repeat (first | refine kn_' ?_ _ | refine kd_' ?_ | refine ka_' ?_ _)); exact BK723.out) hb)
              have n2_ := sk_' (pp_' (by repeat (first | (with_reducible first | exact HB.out | apply pa_' | apply pn_' | apply pd_' | refine pt_' ?_ GE723.out) | exact HB.out)) hb)
              clear BK723
              clear HB
              have HO729 := n0_
              have BK723 := n1_
              have HB := n2_
              clear n0_ n1_ n2_
              clear hb ho25
              refine hK.out _ _ ⟨(kc_' BK723.out 0).trans rfl, (kc_' BK723.out 1).trans rfl⟩ (fun hHeld => ?_)
              clear hK K
              refine norm_ (a' := ?_) ?_ ?_
              rotate_left
              ·
               show Act.put _ (some 45) _ = _
               simp only [Act.put, sa_', sz_', sc_', i64_w, i32_w]
               rfl
              refine two_ (i := 4) (j := 6) (Ni := some 49) (Nj := some 51) #[true, true, true, true, true, true, false, false, true, true, true, false, false] #[true, true, true, true, false, true, true, false, true, true, true, false, false] rfl rfl rfl rfl (two_of HT_.out (by kernel_rfl)) (by decide) (by decide) (fun K hK => ?_) (fun K hK => ?_)
              ·
               skip
               refine Kd.R_append_rows_step k49 (w0 := w) w.heap.size (by rfl) (.tmp 45) (.tmp 48) 44 49 (.agg #[(.int .i64 0), (.int .i64 0)]) 16 rfl Try.underlying44 info49 rfl (by decide) (by omega) v728 y727 y730 _ _ _ (fun k_ => k_ ≠ gb723) (fun _ => False) rfl rfl ?aO ?aR (fun _ _ h => h) (fun _ h => h.elim) ?aF ?aB ?aS ?aL ?_
               (case aR => repeat (first | exact (Kd.C_below HR733.out HB.out) | (with_reducible refine xg_' ?_ _) | (with_reducible refine xe_' ?_ _) | (with_reducible refine xf_' ?_)))
               (case aB => exact (by repeat (first | (with_reducible first | exact HB.out | apply pa_' | apply pn_' | apply pd_' | refine pt_' ?_ GE723.out) | exact HB.out)))
               (case aF => exact (fun k_ hk => Kd.freshB (g := gb723) (o := .cells #[.int .i64 a1_0, .int .i64 a1_1] 49 (0, 0)) (by (with_reducible repeat (first | refine kn_' ?_ _ | refine kd_' ?_ | refine ka_' ?_ _)); exact BK723.out) k_ hk))
               (case aO => exact (by (with_reducible repeat (first | apply ra_' | apply rn_' | apply rd1_')); exact xi_' HO729.out (fun _ hk => hk.2)))
               (case aS => exact (ps_' (by repeat (first | (with_reducible first | exact HB.out | apply pa_' | apply pn_' | apply pd_' | refine pt_' ?_ GE723.out) | exact HB.out))))
               (case aL => have := LMc15.out; omega)
               intro v735 w26 ho hb hg hat
               rw [← Ny734.out] at ho
               have n0_ := sk_' (blk_grown (g := gb723) (o := .cells #[.int .i64 a1_0, .int .i64 a1_1] 49 (0, 0)) (by (with_reducible repeat (first | refine kn_' ?_ _ | refine kd_' ?_ | refine ka_' ?_ _)); exact BK723.out) hg (Kd.R_away HO729.out (fun _ hk => hk.2)))
               have n1_ := sk_' (hb)
               have n2_ := sk_' (ho)
               clear BK723
               clear HB
               clear HO729
               have BK723 := n0_
               have HB := n1_
               have HO736 := n2_
               clear n0_ n1_ n2_
               clear ho hb hg hat
               refine hK.out _ _ ⟨(kc_' BK723.out 0).trans rfl, (kc_' BK723.out 1).trans rfl⟩ (fun hHeld => ?_)
               clear hK K
               refine norm_ (a' := ?_) ?_ ?_
               rotate_left
               ·
                show Act.put _ (some 49) _ = _
                simp only [Act.put, sa_', sz_', sc_', i64_w, i32_w]
                rfl
               refine one_ (i := 6) (N := some 51) #[true, true, true, true, true, true, true, false, true, true, true, false, false] rfl rfl (one_of HT_.out (by kernel_rfl)) (by decide) (fun K hK => ?_)
               refine Kd.R_lit_step k49 _ 49 ?hg (N := 51) ?hd (xs := ([(⟨a1_0, a1_1⟩ : S49)] : List (S49))) (inner := [.int .i64 a1_0, .int .i64 a1_1]) (ok := fun _ => True) (okp := fun _ => True) ?hr ?hp (fun _ hk => hk) trivial (Below.refl _ _) (Nat.le_refl _) (by simp) ?_; (case hd => rfl); (case hg => rfl); (case hr => first | (go_simp; done) | (go_simp; rfl)); (case hp => exact (Reps.c2 (show Kd.M k49 _ _ _ (⟨a1_0, a1_1⟩ : S49) [.int .i64 a1_0, .int .i64 a1_1] from (k49_mkM _ _ _ (⟨a1_0, a1_1⟩ : S49) )) (Reps.none _ _)))
               intro v738 w27 ho28 hb hg_ hnew_
               clear hg_ hnew_
               (first | rw [← Ny737.out] at ho28 | (simp only [Int.reduceToNat] at ho28; rw [← Ny737.out] at ho28))
               have n0_ := sk_' (Kd.R_elder' (by (with_reducible repeat (first | apply ra_' | apply rn_' | apply rd1_')); exact HO736.out) (Kd.R_base ho28) hb)
               have n1_ := sk_' (Kd.R_lower (Kd.R_newB (Kd.R_new' ho28 (Kd.R_lt (by (with_reducible repeat (first | apply ra_' | apply rn_' | apply rd1_')); exact HO736.out))) (g := gb723) (o := .cells #[.int .i64 a1_0, .int .i64 a1_1] 49 (0, 0)) (by (with_reducible repeat (first | refine kn_' ?_ _ | refine kd_' ?_ | refine ka_' ?_ _)); exact BK723.out)) (ps_' (by repeat (first | (with_reducible first | exact HB.out | apply pa_' | apply pn_' | apply pd_' | refine pt_' ?_ GE723.out) | exact HB.out))))
               have n2_ := sk_' (blk_below (g := gb723) (o := .cells #[.int .i64 a1_0, .int .i64 a1_1] 49 (0, 0)) (by (with_reducible repeat (first | refine kn_' ?_ _ | refine kd_' ?_ | refine ka_' ?_ _)); exact BK723.out) hb)
               have n3_ := sk_' (pp_' (by repeat (first | (with_reducible first | exact HB.out | apply pa_' | apply pn_' | apply pd_' | refine pt_' ?_ GE723.out) | exact HB.out)) hb)
               clear HO736
               clear BK723
               clear HB
               have HO736 := n0_
               have HO739 := n1_
               have BK723 := n2_
               have HB := n3_
               clear n0_ n1_ n2_ n3_
               clear hb ho28
               refine hK.out _ _ ⟨(kc_' BK723.out 0).trans rfl, (kc_' BK723.out 1).trans rfl⟩ (fun hHeld => ?_)
               clear hK K
               refine norm_ (a' := ?_) ?_ ?_
               rotate_left
               ·
                show Act.put _ (some 51) _ = _
                simp only [Act.put, sa_', sz_', sc_', i64_w, i32_w]
                rfl
               exact norm_ (by simp only [putAll, Act.put, sa_', sz_', sc_']) (hCont (v728, v735, v738) _ ⟨hHeld, (by (with_reducible repeat (first | apply ra_' | apply rn_' | apply rd1_')); exact xi_' HO736.out (fun _ hk => ⟨hk.2, hk.1⟩)), (by (with_reducible repeat (first | apply ra_' | apply rn_' | apply rd1_')); exact xi_' HO739.out (fun _ hk => ⟨hk.1.2, hk.2⟩)), (by (with_reducible repeat (first | refine kn_' ?_ _ | refine kd_' ?_ | refine ka_' ?_ _)); exact BK723.out), (by repeat (first | (with_reducible first | exact HB.out | apply pa_' | apply pn_' | apply pd_' | refine pt_' ?_ GE723.out) | exact HB.out))⟩)
              skip
              refine Kd.R_lit_step k49 _ 49 ?hg (N := 51) ?hd (xs := ([(⟨a1_0, a1_1⟩ : S49)] : List (S49))) (inner := [.int .i64 a1_0, .int .i64 a1_1]) (ok := fun _ => True) (okp := fun _ => True) ?hr ?hp (fun _ hk => hk) trivial (Below.refl _ _) (Nat.le_refl _) (by simp) ?_; (case hd => rfl); (case hg => rfl); (case hr => first | (go_simp; done) | (go_simp; rfl)); (case hp => exact (Reps.c2 (show Kd.M k49 _ _ _ (⟨a1_0, a1_1⟩ : S49) [.int .i64 a1_0, .int .i64 a1_1] from (k49_mkM _ _ _ (⟨a1_0, a1_1⟩ : S49) )) (Reps.none _ _)))
              intro v738 w26 ho27 hb hg_ hnew_
              clear hg_ hnew_
              (first | rw [← Ny737.out] at ho27 | (simp only [Int.reduceToNat] at ho27; rw [← Ny737.out] at ho27))
              have n0_ := sk_' (Kd.R_elder' (by (with_reducible repeat (first | apply ra_' | apply rn_' | apply rd1_')); exact HO729.out) (Kd.R_base ho27) hb)
              have n1_ := sk_' (Kd.R_lower (Kd.R_newB (Kd.R_new' ho27 (Kd.R_lt (by (with_reducible repeat (first | apply ra_' | apply rn_' | apply rd1_')); exact HO729.out))) (g := gb723) (o := .cells #[.int .i64 a1_0, .int .i64 a1_1] 49 (0, 0)) (by (with_reducible repeat (first | refine kn_' ?_ _ | refine kd_' ?_ | refine ka_' ?_ _)); exact BK723.out)) (ps_' (by repeat (first | (with_reducible first | exact HB.out | apply pa_' | apply pn_' | apply pd_' | refine pt_' ?_ GE723.out) | exact HB.out))))
              have n2_ := sk_' (blk_below (g := gb723) (o := .cells #[.int .i64 a1_0, .int .i64 a1_1] 49 (0, 0)) (by (with_reducible repeat (first | refine kn_' ?_ _ | refine kd_' ?_ | refine ka_' ?_ _)); exact BK723.out) hb)
              have n3_ := sk_' (pp_' (by repeat (first | (with_reducible first | exact HB.out | apply pa_' | apply pn_' | apply pd_' | refine pt_' ?_ GE723.out) | exact HB.out)) hb)
              clear HO729
              clear BK723
              clear HB
              have HO729 := n0_
              have HO739 := n1_
              have BK723 := n2_
              have HB := n3_
              clear n0_ n1_ n2_ n3_
              clear hb ho27
              refine hK.out _ _ ⟨(kc_' BK723.out 0).trans rfl, (kc_' BK723.out 1).trans rfl⟩ (fun hHeld => ?_)
              clear hK K
              refine norm_ (a' := ?_) ?_ ?_
              rotate_left
              ·
               show Act.put _ (some 51) _ = _
               simp only [Act.put, sa_', sz_', sc_', i64_w, i32_w]
               rfl
              refine one_ (i := 4) (N := some 49) #[true, true, true, true, true, true, true, false, true, true, true, false, false] rfl rfl (one_of HT_.out (by kernel_rfl)) (by decide) (fun K hK => ?_)
              refine Kd.R_append_rows_step k49 (w0 := w) w.heap.size (by rfl) (.tmp 45) (.tmp 48) 44 49 (.agg #[(.int .i64 0), (.int .i64 0)]) 16 rfl Try.underlying44 info49 rfl (by decide) (by omega) v728 y727 y730 _ _ _ (fun k_ => some k_ ≠ (v738 : Value).ownBlock ∧ k_ ≠ gb723) (fun _ => False) rfl rfl ?aO ?aR (fun _ _ h => h) (fun _ h => h.elim) ?aF ?aB ?aS ?aL ?_
              (case aR => repeat (first | exact (Kd.C_below HR733.out HB.out) | (with_reducible refine xg_' ?_ _) | (with_reducible refine xe_' ?_ _) | (with_reducible refine xf_' ?_)))
              (case aB => exact (by repeat (first | (with_reducible first | exact HB.out | apply pa_' | apply pn_' | apply pd_' | refine pt_' ?_ GE723.out) | exact HB.out)))
              (case aF => exact (fun k_ hk => ⟨Kd.fresh' (Kd.R_lt (by (with_reducible repeat (first | apply ra_' | apply rn_' | apply rd1_')); exact HO739.out)) k_ hk, Kd.freshB (g := gb723) (o := .cells #[.int .i64 a1_0, .int .i64 a1_1] 49 (0, 0)) (by (with_reducible repeat (first | refine kn_' ?_ _ | refine kd_' ?_ | refine ka_' ?_ _)); exact BK723.out) k_ hk⟩))
              (case aO => exact (by (with_reducible repeat (first | apply ra_' | apply rn_' | apply rd1_')); exact xi_' HO729.out (fun _ hk => ⟨hk.2, hk.1.2⟩)))
              (case aS => exact (ps_' (by repeat (first | (with_reducible first | exact HB.out | apply pa_' | apply pn_' | apply pd_' | refine pt_' ?_ GE723.out) | exact HB.out))))
              (case aL => have := LMc15.out; omega)
              intro v735 w28 ho hb hg hat
              rw [← Ny734.out] at ho
              have n0_ := sk_' (blk_grown (g := gb723) (o := .cells #[.int .i64 a1_0, .int .i64 a1_1] 49 (0, 0)) (by (with_reducible repeat (first | refine kn_' ?_ _ | refine kd_' ?_ | refine ka_' ?_ _)); exact BK723.out) hg (Kd.R_away HO729.out (fun _ hk => hk.1.2)))
              have n1_ := sk_' (Kd.R_after (ok := (fun k_ => k_ ≠ gb723)) (by (with_reducible repeat (first | apply ra_' | apply rn_' | apply rd1_')); exact xi_' HO739.out (fun _ hk => ⟨hk.2, hk.1.2⟩)) hg hat)
              have n2_ := sk_' (hb)
              have n3_ := sk_' (ho)
              clear BK723
              clear HO739
              clear HB
              clear HO729
              have BK723 := n0_
              have HO739 := n1_
              have HB := n2_
              have HO736 := n3_
              clear n0_ n1_ n2_ n3_
              clear ho hb hg hat
              refine hK.out _ _ ⟨(kc_' BK723.out 0).trans rfl, (kc_' BK723.out 1).trans rfl⟩ (fun hHeld => ?_)
              clear hK K
              refine norm_ (a' := ?_) ?_ ?_
              rotate_left
              ·
               show Act.put _ (some 49) _ = _
               simp only [Act.put, sa_', sz_', sc_', i64_w, i32_w]
               rfl
              exact norm_ (by simp only [putAll, Act.put, sa_', sz_', sc_']) (hCont (v728, v735, v738) _ ⟨hHeld, (by (with_reducible repeat (first | apply ra_' | apply rn_' | apply rd1_')); exact HO736.out), (by (with_reducible repeat (first | apply ra_' | apply rn_' | apply rd1_')); exact xi_' HO739.out (fun _ hk => ⟨hk.2, hk.1⟩)), (by (with_reducible repeat (first | refine kn_' ?_ _ | refine kd_' ?_ | refine ka_' ?_ _)); exact BK723.out), (by repeat (first | (with_reducible first | exact HB.out | apply pa_' | apply pn_' | apply pd_' | refine pt_' ?_ GE723.out) | exact HB.out))⟩)
             skip
             refine Kd.R_lit_step k49 _ 49 ?hg (N := 51) ?hd (xs := ([(⟨a1_0, a1_1⟩ : S49)] : List (S49))) (inner := [.int .i64 a1_0, .int .i64 a1_1]) (ok := fun _ => True) (okp := fun _ => True) ?hr ?hp (fun _ hk => hk) trivial (Below.refl _ _) (Nat.le_refl _) (by simp) ?_; (case hd => rfl); (case hg => rfl); (case hr => first | (go_simp; done) | (go_simp; rfl)); (case hp => exact (Reps.c2 (show Kd.M k49 _ _ _ (⟨a1_0, a1_1⟩ : S49) [.int .i64 a1_0, .int .i64 a1_1] from (k49_mkM _ _ _ (⟨a1_0, a1_1⟩ : S49) )) (Reps.none _ _)))
             intro v738 w24 ho25 hb hg_ hnew_
             clear hg_ hnew_
             (first | rw [← Ny737.out] at ho25 | (simp only [Int.reduceToNat] at ho25; rw [← Ny737.out] at ho25))
             have n0_ := sk_' (Kd.R_lower (Kd.R_newB ho25 (g := gb723) (o := .cells #[.int .i64 a1_0, .int .i64 a1_1] 49 (0, 0)) (by (with_reducible repeat (first | refine kn_' ?_ _ | refine kd_' ?_ | refine ka_' ?_ _)); exact BK723.out)) (ps_' (by repeat (first | (with_reducible first | exact HB.out | apply pa_' | apply pn_' | apply pd_' | refine pt_' ?_ GE723.out) | exact HB.out))))
             have n1_ := sk_' (blk_below (g := gb723) (o := .cells #[.int .i64 a1_0, .int .i64 a1_1] 49 (0, 0)) (by (with_reducible repeat (first | refine kn_' ?_ _ | refine kd_' ?_ | refine ka_' ?_ _)); exact BK723.out) hb)
             have n2_ := sk_' (pp_' (by repeat (first | (with_reducible first | exact HB.out | apply pa_' | apply pn_' | apply pd_' | refine pt_' ?_ GE723.out) | exact HB.out)) hb)
             clear BK723
             clear HB
             have HO739 := n0_
             have BK723 := n1_
             have HB := n2_
             clear n0_ n1_ n2_
             clear hb ho25
             refine hK.out _ _ ⟨(kc_' BK723.out 0).trans rfl, (kc_' BK723.out 1).trans rfl⟩ (fun hHeld => ?_)
             clear hK K
             refine norm_ (a' := ?_) ?_ ?_
             rotate_left
             ·
              show Act.put _ (some 51) _ = _
              simp only [Act.put, sa_', sz_', sc_', i64_w, i32_w]
              rfl
             refine one_ (i := 0) (N := some 45) #[true, true, true, true, false, true, true, false, true, true, true, false, false] rfl rfl (one_of HT_.out (by kernel_rfl)) (by decide) (fun K hK => ?_)
             refine Kd.R_lit_step k49 _ 49 ?hg (N := 45) ?hd (xs := ([] : List (S49))) (inner := []) (ok := fun _ => True) (okp := fun _ => True) ?hr ?hp (fun _ hk => hk) trivial (Below.refl _ _) (Nat.le_refl _) (by simp) ?_; (case hd => rfl); (case hg => rfl); (case hr => first | (go_simp; done) | (go_simp; rfl)); (case hp => exact (Reps.none _ _))
             intro v728 w26 ho27 hb hg_ hnew_
             clear hg_ hnew_
             (first | rw [← Ny727.out] at ho27 | (simp only [Int.reduceToNat] at ho27; rw [← Ny727.out] at ho27))
             have n0_ := sk_' (Kd.R_elder' (by (with_reducible repeat (first | apply ra_' | apply rn_' | apply rd1_')); exact HO739.out) (Kd.R_base ho27) hb)
             have n1_ := sk_' (Kd.R_lower (Kd.R_newB (Kd.R_new' ho27 (Kd.R_lt (by (with_reducible repeat (first | apply ra_' | apply rn_' | apply rd1_')); exact HO739.out))) (g := gb723) (o := .cells #[.int .i64 a1_0, .int .i64 a1_1] 49 (0, 0)) (by (with_reducible repeat (first | refine kn_' ?_ _ | refine kd_' ?_ | refine ka_' ?_ _)); exact BK723.out)) (ps_' (by repeat (first | (with_reducible first | exact HB.out | apply pa_' | apply pn_' | apply pd_' | refine pt_' ?_ GE723.out) | exact HB.out))))
             have n2_ := sk_' (blk_below (g := gb723) (o := .cells #[.int .i64 a1_0, .int .i64 a1_1] 49 (0, 0)) (by (with_reducible repeat (first | refine kn_' ?_ _ | refine kd_' ?_ | refine ka_' ?_ _)); exact BK723.out) hb)
             have n3_ := sk_' (pp_' (by repeat (first | (with_reducible first | exact HB.out | apply pa_' | apply pn_' | apply pd_' | refine pt_' ?_ GE723.out) | exact HB.out)) hb)
             clear HO739
             clear BK723
             clear HB
             have HO739 := n0_
             have HO729 := n1_
             have BK723 := n2_
             have HB := n3_
             clear n0_ n1_ n2_ n3_
             clear hb ho27
             refine hK.out _ _ ⟨(kc_' BK723.out 0).trans rfl, (kc_' BK723.out 1).trans rfl⟩ (fun hHeld => ?_)
             clear hK K
             refine norm_ (a' := ?_) ?_ ?_
             rotate_left
             ·
              show Act.put _ (some 45) _ = _
              simp only [Act.put, sa_', sz_', sc_', i64_w, i32_w]
              rfl
             refine one_ (i := 4) (N := some 49) #[true, true, true, true, true, true, true, false, true, true, true, false, false] rfl rfl (one_of HT_.out (by kernel_rfl)) (by decide) (fun K hK => ?_)
             refine Kd.R_append_rows_step k49 (w0 := w) w.heap.size (by rfl) (.tmp 45) (.tmp 48) 44 49 (.agg #[(.int .i64 0), (.int .i64 0)]) 16 rfl Try.underlying44 info49 rfl (by decide) (by omega) v728 y727 y730 _ _ _ (fun k_ => some k_ ≠ (v738 : Value).ownBlock ∧ k_ ≠ gb723) (fun _ => False) rfl rfl ?aO ?aR (fun _ _ h => h) (fun _ h => h.elim) ?aF ?aB ?aS ?aL ?_
             (case aR => repeat (first | exact (Kd.C_below HR733.out HB.out) | (with_reducible refine xg_' ?_ _) | (with_reducible refine xe_' ?_ _) | (with_reducible refine xf_' ?_)))
             (case aB => exact (by repeat (first | (with_reducible first | exact HB.out | apply pa_' | apply pn_' | apply pd_' | refine pt_' ?_ GE723.out) | exact HB.out)))
             (case aF => exact (fun k_ hk => ⟨Kd.fresh' (Kd.R_lt (by (with_reducible repeat (first | apply ra_' | apply rn_' | apply rd1_')); exact HO739.out)) k_ hk, Kd.freshB (g := gb723) (o := .cells #[.int .i64 a1_0, .int .i64 a1_1] 49 (0, 0)) (by (with_reducible repeat (first | refine kn_' ?_ _ | refine kd_' ?_ | refine ka_' ?_ _)); exact BK723.out) k_ hk⟩))
             (case aO => exact (by (with_reducible repeat (first | apply ra_' | apply rn_' | apply rd1_')); exact xi_' HO729.out (fun _ hk => ⟨hk.1.2, hk.2⟩)))
             (case aS => exact (ps_' (by repeat (first | (with_reducible first | exact HB.out | apply pa_' | apply pn_' | apply pd_' | refine pt_' ?_ GE723.out) | exact HB.out))))
             (case aL => have := LMc15.out; omega)
             intro v735 w28 ho hb hg hat
             rw [← Ny734.out] at ho
             have n0_ := sk_' (blk_grown (g := gb723) (o := .cells #[.int .i64 a1_0, .int .i64 a1_1] 49 (0, 0)) (by (with_reducible repeat (first | refine kn_' ?_ _ | refine kd_' ?_ | refine ka_' ?_ _)); exact BK723.out) hg (Kd.R_away HO729.out (fun _ hk => hk.2)))
             have n1_ := sk_' (Kd.R_after (ok := (fun k_ => k_ ≠ gb723)) (by (with_reducible repeat (first | apply ra_' | apply rn_' | apply rd1_')); exact xi_' HO739.out (fun _ hk => ⟨hk.1.2, hk.2⟩)) hg hat)
             have n2_ := sk_' (hb)
             have n3_ := sk_' (ho)
             clear BK723
             clear HO739
             clear HB
             clear HO729
             have BK723 := n0_
             have HO739 := n1_
             have HB := n2_
             have HO736 := n3_
             clear n0_ n1_ n2_ n3_
             clear ho hb hg hat
             refine hK.out _ _ ⟨(kc_' BK723.out 0).trans rfl, (kc_' BK723.out 1).trans rfl⟩ (fun hHeld => ?_)
             clear hK K
             refine norm_ (a' := ?_) ?_ ?_
             rotate_left
             ·
              show Act.put _ (some 49) _ = _
              simp only [Act.put, sa_', sz_', sc_', i64_w, i32_w]
              rfl
             exact norm_ (by simp only [putAll, Act.put, sa_', sz_', sc_']) (hCont (v728, v735, v738) _ ⟨hHeld, (by (with_reducible repeat (first | apply ra_' | apply rn_' | apply rd1_')); exact HO736.out), (by (with_reducible repeat (first | apply ra_' | apply rn_' | apply rd1_')); exact xi_' HO739.out (fun _ hk => ⟨hk.2, hk.1⟩)), (by (with_reducible repeat (first | refine kn_' ?_ _ | refine kd_' ?_ | refine ka_' ?_ _)); exact BK723.out), (by repeat (first | (with_reducible first | exact HB.out | apply pa_' | apply pn_' | apply pd_' | refine pt_' ?_ GE723.out) | exact HB.out))⟩)
            rintro ⟨v728, v735, v738⟩ w29 ⟨hS_, h0_, h1_, h2_, h3_⟩
            have n0_ : Aside0 (Kd.R k49 49 w29 w.heap.size (fun k_ => some k_ ≠ (v738 : Value).ownBlock ∧ k_ ≠ gb723) v735 y734) := ⟨h0_⟩
            have n1_ : Aside0 (Kd.R k49 49 w29 w.heap.size (fun k_ => some k_ ≠ (v735 : Value).ownBlock ∧ k_ ≠ gb723) v738 y737) := ⟨h1_⟩
            have n2_ : Aside0 (w29.heap[gb723]? = some (.cells #[.int .i64 a1_0, .int .i64 a1_1] 49 (0, 0))) := ⟨h2_⟩
            have n3_ : Aside0 (Below w.heap.size w w29) := ⟨h3_⟩
            clear BK723
            clear HB
            clear h0_ h1_ h2_ h3_
            have HO736 := n0_
            have HO739 := n1_
            have BK723 := n2_
            have HB := n3_
            clear n0_ n1_ n2_ n3_
            have hHeld : w29.cell? ⟨gb723, 0, none⟩ = some (.int .i64 a1_0) ∧ w29.cell? ⟨gb723, 1, none⟩ = some (.int .i64 a1_1) := hS_
            obtain ⟨Ao31, co31, eo31⟩ := Kd.R_slice HO739.out
            (first | subst eo31 | (injection eo31 with f1_ f2_ f3_; have f4_ := f1_.symm; have f5_ := f3_.symm; clear f1_ f2_ f3_; subst f4_; subst f5_))
            refine norm_ (a' := ?_) ?_ ?_
            rotate_left
            ·
             simp only [putAll, Act.put, sa_', sz_', sc_']
             rfl
            refine one_ (i := 7) (N := some 52) #[true, true, true, true, true, true, true, true, true, true, true, false, false] rfl rfl (one_of HT_.out (by kernel_rfl)) (by decide) (fun K hK => ?_)
            refine Kd.R_append_rows_step k49 (w0 := w) w.heap.size (by rfl) (.tmp 49) (.tmp 51) 44 49 (.agg #[(.int .i64 0), (.int .i64 0)]) 16 rfl Try.underlying44 info49 rfl (by decide) (by omega) v735 y734 y737 _ _ _ (fun k_ => some k_ ≠ (.slice Ao31 y737.length co31 : Value).ownBlock ∧ k_ ≠ gb723) (fun _ => False) rfl rfl ?aO ?aR (fun _ _ h => h) (fun _ h => h.elim) ?aF ?aB ?aS ?aL ?_
            (case aR => repeat (first | exact (xr_' HO739.out).2.2 | (with_reducible refine xg_' ?_ _) | (with_reducible refine xe_' ?_ _) | (with_reducible refine xf_' ?_)))
            (case aB => exact (by repeat (first | (with_reducible first | exact HB.out | apply pa_' | apply pn_' | apply pd_' | refine pt_' ?_ GE723.out) | exact HB.out)))
            (case aF => exact (fun k_ hk => ⟨Kd.fresh' (Kd.R_lt (by (with_reducible repeat (first | apply ra_' | apply rn_' | apply rd1_')); exact HO739.out)) k_ hk, Kd.freshB (g := gb723) (o := .cells #[.int .i64 a1_0, .int .i64 a1_1] 49 (0, 0)) (by (with_reducible repeat (first | refine kn_' ?_ _ | refine kd_' ?_ | refine ka_' ?_ _)); exact BK723.out) k_ hk⟩))
            (case aO => exact (by (with_reducible repeat (first | apply ra_' | apply rn_' | apply rd1_')); exact HO736.out))
            (case aS => exact (ps_' (by repeat (first | (with_reducible first | exact HB.out | apply pa_' | apply pn_' | apply pd_' | refine pt_' ?_ GE723.out) | exact HB.out))))
            (case aL => have := LMc16.out; omega)
            intro v741 w30 ho hb hg hat
            rw [← Ny740.out] at ho
            have n0_ := sk_' (blk_grown (g := gb723) (o := .cells #[.int .i64 a1_0, .int .i64 a1_1] 49 (0, 0)) (by (with_reducible repeat (first | refine kn_' ?_ _ | refine kd_' ?_ | refine ka_' ?_ _)); exact BK723.out) hg (Kd.R_away HO736.out (fun _ hk => hk.2)))
            have n1_ := sk_' (Kd.R_after (ok := (fun k_ => k_ ≠ gb723)) (by (with_reducible repeat (first | apply ra_' | apply rn_' | apply rd1_')); exact xi_' HO739.out (fun _ hk => ⟨hk.2, hk.1⟩)) hg hat)
            have n2_ := sk_' (hb)
            have n3_ := sk_' (ho)
            clear BK723
            clear HO739
            clear HB
            clear HO736
            have BK723 := n0_
            have HO739 := n1_
            have HB := n2_
            have HO742 := n3_
            clear n0_ n1_ n2_ n3_
            clear ho hb hg hat
            refine hK.out _ _ ⟨(kc_' BK723.out 0).trans rfl, (kc_' BK723.out 1).trans rfl⟩ (fun hHeld => ?_)
            clear hK K
            refine norm_ (a' := ?_) ?_ ?_
            rotate_left
            ·
             show Act.put _ (some 52) _ = _
             simp only [Act.put, sa_', sz_', sc_', i64_w, i32_w]
             rfl
            refine one_ (i := 11) (N := some 56) #[true, true, true, true, true, true, true, true, true, true, true, true, false] rfl rfl (one_of HT_.out (by kernel_rfl)) (by decide) (fun K hK => ?_)
            refine Kd.R_append_rows_step k49 (w0 := w) w.heap.size (by rfl) (.tmp 52) (.tmp 55) 44 49 (.agg #[(.int .i64 0), (.int .i64 0)]) 16 rfl Try.underlying44 info49 rfl (by decide) (by omega) v741 y740 y743 _ _ _ (fun k_ => some k_ ≠ (.slice Ao31 y737.length co31 : Value).ownBlock ∧ k_ ≠ gb723) (fun _ => False) rfl rfl ?aO ?aR (fun _ _ h => h) (fun _ h => h.elim) ?aF ?aB ?aS ?aL ?_
            (case aR => repeat (first | exact (Kd.C_below HR746.out HB.out) | (with_reducible refine xg_' ?_ _) | (with_reducible refine xe_' ?_ _) | (with_reducible refine xf_' ?_)))
            (case aB => exact (by repeat (first | (with_reducible first | exact HB.out | apply pa_' | apply pn_' | apply pd_' | refine pt_' ?_ GE723.out) | exact HB.out)))
            (case aF => exact (fun k_ hk => ⟨Kd.fresh' (Kd.R_lt (by (with_reducible repeat (first | apply ra_' | apply rn_' | apply rd1_')); exact HO739.out)) k_ hk, Kd.freshB (g := gb723) (o := .cells #[.int .i64 a1_0, .int .i64 a1_1] 49 (0, 0)) (by (with_reducible repeat (first | refine kn_' ?_ _ | refine kd_' ?_ | refine ka_' ?_ _)); exact BK723.out) k_ hk⟩))
            (case aO => exact (by (with_reducible repeat (first | apply ra_' | apply rn_' | apply rd1_')); exact HO742.out))
            (case aS => exact (ps_' (by repeat (first | (with_reducible first | exact HB.out | apply pa_' | apply pn_' | apply pd_' | refine pt_' ?_ GE723.out) | exact HB.out))))
            (case aL => have := LMc19.out; omega)
            intro v748 w32 ho hb hg hat
            rw [← Ny747.out] at ho
            have n0_ := sk_' (blk_grown (g := gb723) (o := .cells #[.int .i64 a1_0, .int .i64 a1_1] 49 (0, 0)) (by (with_reducible repeat (first | refine kn_' ?_ _ | refine kd_' ?_ | refine ka_' ?_ _)); exact BK723.out) hg (Kd.R_away HO742.out (fun _ hk => hk.2)))
            have n1_ := sk_' (Kd.R_after (ok := (fun k_ => k_ ≠ gb723)) (by (with_reducible repeat (first | apply ra_' | apply rn_' | apply rd1_')); exact HO739.out) hg hat)
            have n2_ := sk_' (hb)
            have n3_ := sk_' (ho)
            clear BK723
            clear HO739
            clear HB
            clear HO742
            have BK723 := n0_
            have HO739 := n1_
            have HB := n2_
            have HO749 := n3_
            clear n0_ n1_ n2_ n3_
            clear ho hb hg hat
            refine hK.out _ _ ⟨(kc_' BK723.out 0).trans rfl, (kc_' BK723.out 1).trans rfl⟩ (fun hHeld => ?_)
            clear hK K
            refine norm_ (a' := ?_) ?_ ?_
            rotate_left
            ·
             show Act.put _ (some 56) _ = _
             simp only [Act.put, sa_', sz_', sc_', i64_w, i32_w]
             rfl
            refine pure_ (i := 12) (N := some 4) (v := ?_) (a' := ?_) #[true, true, true, true, true, true, true, true, true, true, true, true, true] rfl rfl (any_of HT_.out (by kernel_rfl)) (fun _ _ _ h => h) (Or.inl ⟨by rfl, ?_⟩) ?_ ?_
            rotate_left
            ·
             intro w'
             go_simp
             with_reducible rfl
            rotate_left
            ·
             simp only [Act.put, sa_', sz_', sc_', i64_w, i32_w]
             rfl
            refine done_ (done_of HT_.out (by kernel_rfl)) ?_
            try go_wp2
            go_ret
            exact ⟨_, by first | rfl | (simp [errW_none, errW_some] <;> rfl) | (simp only [← hji5]; first | rfl | (simp [errW_none, errW_some] <;> rfl)) | (simp [*, errW_none, errW_some] <;> rfl), by (with_reducible repeat (first | apply ra_' | apply rn_' | apply rd1_')); exact xi_' HO749.out (fun _ hk => trivial), by repeat (first | (with_reducible first | exact HB.out | apply pa_' | apply pn_' | apply pd_' | refine pt_' ?_ GE723.out) | exact HB.out)⟩
           rw [if_neg c19] at H
           exact absurd H (by simp)
          rw [if_neg c16] at H
          exact absurd H (by simp)
         rw [if_neg c15] at H
         exact absurd H (by simp)
        rw [if_neg c14] at H
        exact absurd H (by simp)
       rw [if_neg c13] at H
       exact absurd H (by simp)
      rw [if_neg c10] at H
      have c10b0 : (((rd_T49 l0 (ji5)).f0) == a1_0) = false := beq_eq_false_iff_ne.mpr c10
      have c10b1 : (((rd_T49 l0 (ji5)).f0) != a1_0) = true := bne_iff_ne.mpr c10
      obtain ⟨y750, hy750⟩ : ∃ y_ : List (S49), y_ = (([] : List (S49))) := ⟨_, rfl⟩
      replace H : (if 0 ≤ x5_1 then (if x5_1 ≤ (l0.length : Int) then ((some (l0.take (x5_1 : Int).toNat : List (S49))).bind fun y753 => (if y750.length + y753.length < 8796093022208 then ((some (y750 ++ y753 : List (S49))).bind fun y757 => ((some (([(⟨a1_0, a1_1⟩ : S49)] : List (S49)) : List (S49))).bind fun y760 => (if y757.length + y760.length < 8796093022208 then ((some (y757 ++ y760 : List (S49))).bind fun y763 => ((some (l0.drop (x5_1 : Int).toNat : List (S49))).bind fun y766 => (if y763.length + y766.length < 8796093022208 then (some (y763 ++ y766)) else (none)))) else (none)))) else (none))) else (none)) else (none)) = some r := by first | (rw [hy750]; with_reducible exact H) | (have H2_ := (Option.bind_some _ _).symm.trans H; rw [hy750]; with_reducible exact H2_) | (have H2_ := (Option.bind_some _ _).symm.trans H; with_reducible exact H2_) | with_reducible exact H | (rw [hy750]; exact H) | exact H
      have Ny750 := sk_' hy750
      clear hy750
      by_cases c33 : 0 ≤ x5_1
      ·
       rw [if_pos c33] at H
       have c33b0 := eq_true c33
       have c33b1 : decide (0 ≤ x5_1) = true := decide_eq_true c33
       clear c33
       by_cases c34 : x5_1 ≤ (l0.length : Int)
       ·
        rw [if_pos c34] at H
        have c34b0 := eq_true c34
        have c34b1 : decide (x5_1 ≤ (l0.length : Int)) = true := decide_eq_true c34
        clear c34
        obtain ⟨y753, hy753⟩ : ∃ y_ : List (S49), y_ = (l0.take (x5_1 : Int).toNat) := ⟨_, rfl⟩
        replace H : (if y750.length + y753.length < 8796093022208 then ((some (y750 ++ y753 : List (S49))).bind fun y757 => ((some (([(⟨a1_0, a1_1⟩ : S49)] : List (S49)) : List (S49))).bind fun y760 => (if y757.length + y760.length < 8796093022208 then ((some (y757 ++ y760 : List (S49))).bind fun y763 => ((some (l0.drop (x5_1 : Int).toNat : List (S49))).bind fun y766 => (if y763.length + y766.length < 8796093022208 then (some (y763 ++ y766)) else (none)))) else (none)))) else (none)) = some r := by first | (rw [hy753]; with_reducible exact H) | (have H2_ := (Option.bind_some _ _).symm.trans H; rw [hy753]; with_reducible exact H2_) | (have H2_ := (Option.bind_some _ _).symm.trans H; with_reducible exact H2_) | with_reducible exact H | (rw [hy753]; exact H) | exact H
        have Ny753 := sk_' hy753
        clear hy753
        by_cases c35 : y750.length + y753.length < 8796093022208
        ·
         rw [if_pos c35] at H
         have LMc35 := sk_' c35
         clear c35
         obtain ⟨y757, hy757⟩ : ∃ y_ : List (S49), y_ = (y750 ++ y753) := ⟨_, rfl⟩
         replace H : ((some (([(⟨a1_0, a1_1⟩ : S49)] : List (S49)) : List (S49))).bind fun y760 => (if y757.length + y760.length < 8796093022208 then ((some (y757 ++ y760 : List (S49))).bind fun y763 => ((some (l0.drop (x5_1 : Int).toNat : List (S49))).bind fun y766 => (if y763.length + y766.length < 8796093022208 then (some (y763 ++ y766)) else (none)))) else (none))) = some r := by first | (rw [hy757]; with_reducible exact H) | (have H2_ := (Option.bind_some _ _).symm.trans H; rw [hy757]; with_reducible exact H2_) | (have H2_ := (Option.bind_some _ _).symm.trans H; with_reducible exact H2_) | with_reducible exact H | (rw [hy757]; exact H) | exact H
         have Ny757 := sk_' hy757
         clear hy757
         obtain ⟨y760, hy760⟩ : ∃ y_ : List (S49), y_ = (([(⟨a1_0, a1_1⟩ : S49)] : List (S49))) := ⟨_, rfl⟩
         replace H : (if y757.length + y760.length < 8796093022208 then ((some (y757 ++ y760 : List (S49))).bind fun y763 => ((some (l0.drop (x5_1 : Int).toNat : List (S49))).bind fun y766 => (if y763.length + y766.length < 8796093022208 then (some (y763 ++ y766)) else (none)))) else (none)) = some r := by first | (rw [hy760]; with_reducible exact H) | (have H2_ := (Option.bind_some _ _).symm.trans H; rw [hy760]; with_reducible exact H2_) | (have H2_ := (Option.bind_some _ _).symm.trans H; with_reducible exact H2_) | with_reducible exact H | (rw [hy760]; exact H) | exact H
         have Ny760 := sk_' hy760
         clear hy760
         by_cases c36 : y757.length + y760.length < 8796093022208
         ·
          rw [if_pos c36] at H
          have LMc36 := sk_' c36
          clear c36
          obtain ⟨y763, hy763⟩ : ∃ y_ : List (S49), y_ = (y757 ++ y760) := ⟨_, rfl⟩
          replace H : ((some (l0.drop (x5_1 : Int).toNat : List (S49))).bind fun y766 => (if y763.length + y766.length < 8796093022208 then (some (y763 ++ y766)) else (none))) = some r := by first | (rw [hy763]; with_reducible exact H) | (have H2_ := (Option.bind_some _ _).symm.trans H; rw [hy763]; with_reducible exact H2_) | (have H2_ := (Option.bind_some _ _).symm.trans H; with_reducible exact H2_) | with_reducible exact H | (rw [hy763]; exact H) | exact H
          have Ny763 := sk_' hy763
          clear hy763
          have c37b0 := eq_true (od_' (by first | (with_reducible assumption) | assumption) : 0 ≤ x5_1)
          have c38b0 := eq_true (od_' (by first | (with_reducible assumption) | assumption) : x5_1 ≤ (l0.length : Int))
          obtain ⟨y766, hy766⟩ : ∃ y_ : List (S49), y_ = (l0.drop (x5_1 : Int).toNat) := ⟨_, rfl⟩
          replace H : (if y763.length + y766.length < 8796093022208 then (some (y763 ++ y766)) else (none)) = some r := by first | (rw [hy766]; with_reducible exact H) | (have H2_ := (Option.bind_some _ _).symm.trans H; rw [hy766]; with_reducible exact H2_) | (have H2_ := (Option.bind_some _ _).symm.trans H; with_reducible exact H2_) | with_reducible exact H | (rw [hy766]; exact H) | exact H
          have Ny766 := sk_' hy766
          clear hy766
          by_cases c39 : y763.length + y766.length < 8796093022208
          ·
           rw [if_pos c39] at H
           have LMc39 := sk_' c39
           clear c39
           obtain ⟨y770, hy770⟩ : ∃ y_ : List (S49), y_ = (y763 ++ y766) := ⟨_, rfl⟩
           replace H : (some y770) = some r := by first | (rw [hy770]; with_reducible exact H) | (have H2_ := (Option.bind_some _ _).symm.trans H; rw [hy770]; with_reducible exact H2_) | (have H2_ := (Option.bind_some _ _).symm.trans H; with_reducible exact H2_) | with_reducible exact H | (rw [hy770]; exact H) | exact H
           have Ny770 := sk_' hy770
           clear hy770
           obtain rfl := Option.some.inj H
           try go_wp2
           have n0_ := sk_' (kd_' BK723.out)
           have n1_ := sk_' (pd_' HB.out)
           clear BK723
           clear HB
           have BK723 := n0_
           have HB := n1_
           clear n0_ n1_
           have p724 : 0 ≤ ((ji5) : Int) := od_' (by first | (with_reducible assumption) | assumption)
           have q724 : (ji5) < (l0.length : Int) := od_' (by first | (with_reducible assumption) | assumption)
           obtain ⟨ad724, e724, hx724_0, hx724_1⟩ := at_T49 HR0.out (ji5) p724 q724
           have hw724_1 := hx724_1
           have hw724_0 := hx724_0
           cases e724
           replace hx724_0 := (HB.out.cell (bq_' w _ hx724_0)).trans hx724_0
           replace hx724_1 := (HB.out.cell (bq_' w _ hx724_1)).trans hx724_1
           replace p724 := eq_true p724
           replace q724 := eq_true q724
           have p725 : 0 ≤ ((ji5) : Int) := od_' (by first | (with_reducible assumption) | assumption)
           have q725 : (ji5) < (l0.length : Int) := od_' (by first | (with_reducible assumption) | assumption)
           obtain ⟨ad725, e725, hx725_0, hx725_1⟩ := at_T49 HR0.out (ji5) p725 q725
           have hw725_1 := hx725_1
           have hw725_0 := hx725_0
           obtain rfl : ad724 = ad725 := (by injection e725)
           replace hx725_0 := (HB.out.cell (bq_' w _ hx725_0)).trans hx725_0
           replace hx725_1 := (HB.out.cell (bq_' w _ hx725_1)).trans hx725_1
           replace p725 := eq_true p725
           replace q725 := eq_true q725
           have hq0_ : wr.cell? ⟨gb723, 0, none⟩ = some (.int .i64 a1_0) := (kc_' BK723.out 0).trans rfl
           have hq1_ : wr.cell? ⟨gb723, 1, none⟩ = some (.int .i64 a1_1) := (kc_' BK723.out 1).trans rfl
           have hq2_ : wr.cell? (ad724.add (((ji5)).toNat * 2)) = some (.int .i64 ((rd_T49 l0 (ji5)).f0)) := ((HB.out.cell (bq_' w _ hw724_0)).trans hw724_0)
           have hq3_ : wr.cell? ⟨(ad724.add (((ji5)).toNat * 2)).block, (ad724.add (((ji5)).toNat * 2)).off + 1, none⟩ = some (.int .i64 ((rd_T49 l0 (ji5)).f1)) := ((HB.out.cell (bq_' w _ hw724_1)).trans hw724_1)
           have hq4_ : wr.cell? (ad724.add (((ji5)).toNat * 2)) = some (.int .i64 ((rd_T49 l0 (ji5)).f0)) := ((HB.out.cell (bq_' w _ hw725_0)).trans hw725_0)
           have hq5_ : wr.cell? ⟨(ad724.add (((ji5)).toNat * 2)).block, (ad724.add (((ji5)).toNat * 2)).off + 1, none⟩ = some (.int .i64 ((rd_T49 l0 (ji5)).f1)) := ((HB.out.cell (bq_' w _ hw725_1)).trans hw725_1)
           go_quiet (fail)
           have nBK723_ := sk_' (kn_' (w := wr) BK723.out nq)
           have nHB_ := sk_' (pn_' (W := wr) ⟨HB.out.os, HB.out.tape, HB.out.output, HB.out.size, HB.out.block⟩ nq)
           have nhx724_0_ : (wr.drewN nq).cell? _ = _ := hx724_0
           have nhx724_1_ : (wr.drewN nq).cell? _ = _ := hx724_1
           have nhx725_0_ : (wr.drewN nq).cell? _ = _ := hx725_0
           have nhx725_1_ : (wr.drewN nq).cell? _ = _ := hx725_1
           clear BK723 HB hx724_0 hx724_1 hx725_0 hx725_1 hq0_ hq1_ hq2_ hq3_ hq4_ hq5_
           have BK723 := nBK723_
           have HB := nHB_
           have hx724_0 := nhx724_0_
           have hx724_1 := nhx724_1_
           have hx725_0 := nhx725_0_
           have hx725_1 := nhx725_1_
           clear nBK723_ nHB_ nhx724_0_ nhx724_1_ nhx725_0_ nhx725_1_
           generalize wr.drewN nq = w40 at BK723 HB hx724_0 hx724_1 hx725_0 hx725_1 ⊢
           try go_wp2
           have n0_ := sk_' (kd_' BK723.out)
           have n1_ := sk_' (pd_' HB.out)
           clear BK723
           clear HB
           have BK723 := n0_
           have HB := n1_
           clear n0_ n1_
           have q42 : (x5_1 : Int) ≤ ((l0.length : Int) : Int) := od_' (by first | (with_reducible assumption) | assumption)
           obtain ⟨i042, hi042, _, hsz42, _⟩ := info_parts info49
           have hroom42 : l0.length ≤ c0 := HC0.out
           have hC42 : Kd.C k49 _ (some ad724) l0.length l0 := HR0.out
           have hcut42 := cut_to (P := Try.prog) 44 49 .i64 Try.underlying44 hi042 (some ad724) l0.length c0 x5_1 (od_' (by first | (with_reducible assumption) | assumption)) q42 hroom42
           have hr42 := Kd.C_take (m := (x5_1 : Int).toNat) hC42 (by omega)
           have hy42 : y753.length = (x5_1 : Int).toNat := (by rw [Ny753.out, xt_']; omega)
           rw [← Ny753.out] at hr42
           rw [← hy42] at hcut42
           have HR756 := sk_' hr42
           have HC756 := sk_' (show y753.length ≤ c0 from by omega)
           clear hr42 hC42 hroom42 hi042 hsz42
           have KY42 := sk_' hy42
           clear hy42
           replace q42 := eq_true q42
           have q43 : (x5_1 : Int) ≤ ((l0.length : Int) : Int) := od_' (by first | (with_reducible assumption) | assumption)
           obtain ⟨i043, hi043, _, hsz43, _⟩ := info_parts info49
           have hroom43 : l0.length ≤ c0 := HC0.out
           have hC43 : Kd.C k49 _ (some ad724) l0.length l0 := HR0.out
           have q043 : (0 : Int) ≤ (x5_1 : Int) := od_' (by first | (with_reducible assumption) | assumption)
           have hcut43 := cut_from (P := Try.prog) 44 49 .i64 Try.underlying44 hi043 2 hsz43 (some ad724) l0.length c0 x5_1 q043 q43
           have hr43 := Kd.C_drop (m := (x5_1 : Int).toNat) (c := c0) hC43 (by omega) hroom43
           obtain ⟨A43, hA43⟩ : ∃ A1, A1 = (if c0 = (x5_1 : Int).toNat then (some ad724) else ((some ad724) : Option Addr).map (·.add ((x5_1 : Int).toNat * 2))) := ⟨_, rfl⟩
           obtain ⟨c43, hc43⟩ : ∃ c1, c1 = c0 - (x5_1 : Int).toNat := ⟨_, rfl⟩
           have hy43 : y766.length = l0.length - (x5_1 : Int).toNat := (by rw [Ny766.out, xd_'] <;> omega)
           rw [show (l0).drop (x5_1 : Int).toNat = y766 from Ny766.out.symm] at hr43
           replace hr43 : Kd.C k49 _ A43 y766.length y766 := (by rw [hA43]; exact hr43)
           rw [← hy43, ← hA43, ← hc43] at hcut43
           have HR769 := sk_' hr43
           have HC769 := sk_' (show y766.length ≤ c43 from by rw [hy43, hc43]; exact Nat.sub_le_sub_right hroom43 _)
           clear hr43 hC43 hroom43 hi043 hsz43 hc43
           have KY43 := sk_' hy43
           have KA43 := sk_' hA43
           clear hy43 hA43
           replace q43 := eq_true q43
           refine start_ (n := 13) (S := fun w' => w'.cell? ⟨gb723, 0, none⟩ = some (.int .i64 a1_0) ∧ w'.cell? ⟨gb723, 1, none⟩ = some (.int .i64 a1_1)) (ds := []) #[false, false, false, false, false, false, false, false, false, false, false, false, false] (by kernel_rfl) rfl rfl ⟨(kc_' BK723.out 0).trans rfl, (kc_' BK723.out 1).trans rfl⟩ (fun hHeld => ?_); refine with_tabW spec_l14Put.tab4 spec_l14Put.bits4 (fun HT_ HW_ => ?_)
           generalize w40.drew = w41 at BK723 HB HR756 HR769 hHeld ⊢
           refine pure_ (i := 1) (N := some 46) (v := ?_) (a' := ?_) #[false, true, false, false, false, false, false, false, false, false, false, false, false] rfl rfl (any_of HT_.out (by kernel_rfl)) (fun _ _ _ h => h) (Or.inl ⟨by rfl, ?_⟩) ?_ ?_
           rotate_left
           ·
            intro w'
            go_simp
            with_reducible rfl
           rotate_left
           ·
            simp only [Act.put, sa_', sz_', sc_', i64_w, i32_w]
            rfl
           refine pure_ (i := 2) (N := some 47) (v := ?_) (a' := ?_) #[false, true, true, false, false, false, false, false, false, false, false, false, false] rfl rfl (any_of HT_.out (by kernel_rfl)) (fun _ _ _ h => h) (Or.inl ⟨by rfl, ?_⟩) ?_ ?_
           rotate_left
           ·
            intro w'
            go_simp
            with_reducible rfl
           rotate_left
           ·
            simp only [Act.put, sa_', sz_', sc_', i64_w, i32_w]
            rfl
           refine pure_ (i := 3) (N := some 48) (v := ?_) (a' := ?_) #[false, true, true, true, false, false, false, false, false, false, false, false, false] rfl rfl (any_of HT_.out (by kernel_rfl)) (fun _ _ _ h => h) (Or.inl ⟨by rfl, ?_⟩) ?_ ?_
           rotate_left
           ·
            intro w'
            go_simp
            with_reducible rfl
           rotate_left
           ·
            simp only [Act.put, sa_', sz_', sc_', i64_w, i32_w]
            rfl
           refine pure_ (i := 8) (N := some 53) (v := ?_) (a' := ?_) #[false, true, true, true, false, false, false, false, true, false, false, false, false] rfl rfl (any_of HT_.out (by kernel_rfl)) (fun _ _ _ h => h) (Or.inl ⟨by rfl, ?_⟩) ?_ ?_
           rotate_left
           ·
            intro w'
            go_simp
            with_reducible rfl
           rotate_left
           ·
            simp only [Act.put, sa_', sz_', sc_', i64_w, i32_w]
            rfl
           refine pure_ (i := 9) (N := some 54) (v := ?_) (a' := ?_) #[false, true, true, true, false, false, false, false, true, true, false, false, false] rfl rfl (any_of HT_.out (by kernel_rfl)) (fun _ _ _ h => h) (Or.inl ⟨by rfl, ?_⟩) ?_ ?_
           rotate_left
           ·
            intro w'
            go_simp
            with_reducible rfl
           rotate_left
           ·
            simp only [Act.put, sa_', sz_', sc_', i64_w, i32_w]
            rfl
           refine pure_ (i := 10) (N := some 55) (v := ?_) (a' := ?_) #[false, true, true, true, false, false, false, false, true, true, true, false, false] rfl rfl (any_of HT_.out (by kernel_rfl)) (fun _ _ _ h => h) (Or.inl ⟨by rfl, ?_⟩) ?_ ?_
           rotate_left
           ·
            intro w'
            go_simp
            with_reducible rfl
           rotate_left
           ·
            simp only [Act.put, sa_', sz_', sc_', i64_w, i32_w]
            rfl
           refine take_ (i := 5) (N := some 50) (v := ?_) (a' := ?_) #[false, true, true, true, false, true, false, false, true, true, true, false, false] rfl rfl (take_ofW HT_.out HW_.out (by kernel_rfl)) (fun _ _ _ h => h) (Or.inl ⟨by rfl, ?_⟩) hHeld ?_ ?_
           rotate_left
           ·
            rintro w' ⟨s0, s1⟩
            go_simp
            with_reducible rfl
           rotate_left
           ·
            simp only [Act.put, sa_', sz_', sc_', i64_w, i32_w]
            rfl
           refine join_ (σ := Value × Value × Value) 3 #[true, true, true, true, true, true, true, false, true, true, true, false, false] (fun s_ => [(45, s_.1), (49, s_.2.1), (51, s_.2.2)]) (fun s_ w' => (w'.cell? ⟨gb723, 0, none⟩ = some (.int .i64 a1_0) ∧ w'.cell? ⟨gb723, 1, none⟩ = some (.int .i64 a1_1)) ∧ (Kd.R k49 49 w' w.heap.size (fun k_ => some k_ ≠ (s_.2.2 : Value).ownBlock ∧ k_ ≠ gb723) s_.2.1 y757) ∧ (Kd.R k49 49 w' w.heap.size (fun k_ => some k_ ≠ (s_.2.1 : Value).ownBlock ∧ k_ ≠ gb723) s_.2.2 y760) ∧ (w'.heap[gb723]? = some (.cells #[.int .i64 a1_0, .int .i64 a1_1] 49 (0, 0))) ∧ (Below w.heap.size w w')) ?_ ?_
           rotate_left
           ·
            intro hCont
            refine two_ (i := 0) (j := 6) (Ni := some 45) (Nj := some 51) #[true, true, true, true, false, true, false, false, true, true, true, false, false] #[false, true, true, true, false, true, true, false, true, true, true, false, false] rfl rfl rfl rfl (two_of HT_.out (by kernel_rfl)) (by decide) (by decide) (fun K hK => ?_) (fun K hK => ?_)
            ·
             skip
             refine Kd.R_lit_step k49 _ 49 ?hg (N := 45) ?hd (xs := ([] : List (S49))) (inner := []) (ok := fun _ => True) (okp := fun _ => True) ?hr ?hp (fun _ hk => hk) trivial (Below.refl _ _) (Nat.le_refl _) (by simp) ?_; (case hd => rfl); (case hg => rfl); (case hr => first | (go_simp; done) | (go_simp; rfl)); (case hp => exact (Reps.none _ _))
             intro v751 w44 ho45 hb hg_ hnew_
             clear hg_ hnew_
             (first | rw [← Ny750.out] at ho45 | (simp only [Int.reduceToNat] at ho45; rw [← Ny750.out] at ho45))
             have n0_ := sk_' (Kd.R_lower (Kd.R_newB ho45 (g := gb723) (o := .cells #[.int .i64 a1_0, .int .i64 a1_1] 49 (0, 0)) (by (with_reducible repeat (first | refine kn_' ?_ _ | refine kd_' ?_ | refine ka_' ?_ _)); exact BK723.out)) (ps_' (by repeat (first | (with_reducible first | exact HB.out | apply pa_' | apply pn_' | apply pd_' | refine pt_' ?_ GE723.out) | exact HB.out))))
             have n1_ := sk_' (blk_below (g := gb723) (o := .cells #[.int .i64 a1_0, .int .i64 a1_1] 49 (0, 0)) (by (with_reducible repeat (first | refine kn_' ?_ _ | refine kd_' ?_ | refine ka_' ?_ _)); exact BK723.out) hb)
             have n2_ := sk_' (pp_' (by repeat (first | (with_reducible first | exact HB.out | apply pa_' | apply pn_' | apply pd_' | refine pt_' ?_ GE723.out) | exact HB.out)) hb)
             clear BK723
             clear HB
             have HO752 := n0_
             have BK723 := n1_
             have HB := n2_
             clear n0_ n1_ n2_
             clear hb ho45
             refine hK.out _ _ ⟨(kc_' BK723.out 0).trans rfl, (kc_' BK723.out 1).trans rfl⟩ (fun hHeld => ?_)
             clear hK K
             refine norm_ (a' := ?_) ?_ ?_
             rotate_left
             ·
              show Act.put _ (some 45) _ = _
              simp only [Act.put, sa_', sz_', sc_', i64_w, i32_w]
              rfl
             refine two_ (i := 4) (j := 6) (Ni := some 49) (Nj := some 51) #[true, true, true, true, true, true, false, false, true, true, true, false, false] #[true, true, true, true, false, true, true, false, true, true, true, false, false] rfl rfl rfl rfl (two_of HT_.out (by kernel_rfl)) (by decide) (by decide) (fun K hK => ?_) (fun K hK => ?_)
             ·
              skip
              refine Kd.R_append_rows_step k49 (w0 := w) w.heap.size (by rfl) (.tmp 45) (.tmp 48) 44 49 (.agg #[(.int .i64 0), (.int .i64 0)]) 16 rfl Try.underlying44 info49 rfl (by decide) (by omega) v751 y750 y753 _ _ _ (fun k_ => k_ ≠ gb723) (fun _ => False) rfl rfl ?aO ?aR (fun _ _ h => h) (fun _ h => h.elim) ?aF ?aB ?aS ?aL ?_
              (case aR => repeat (first | exact (Kd.C_below HR756.out HB.out) | (with_reducible refine xg_' ?_ _) | (with_reducible refine xe_' ?_ _) | (with_reducible refine xf_' ?_)))
              (case aB => exact (by repeat (first | (with_reducible first | exact HB.out | apply pa_' | apply pn_' | apply pd_' | refine pt_' ?_ GE723.out) | exact HB.out)))
              (case aF => exact (fun k_ hk => Kd.freshB (g := gb723) (o := .cells #[.int .i64 a1_0, .int .i64 a1_1] 49 (0, 0)) (by (with_reducible repeat (first | refine kn_' ?_ _ | refine kd_' ?_ | refine ka_' ?_ _)); exact BK723.out) k_ hk))
              (case aO => exact (by (with_reducible repeat (first | apply ra_' | apply rn_' | apply rd1_')); exact xi_' HO752.out (fun _ hk => hk.2)))
              (case aS => exact (ps_' (by repeat (first | (with_reducible first | exact HB.out | apply pa_' | apply pn_' | apply pd_' | refine pt_' ?_ GE723.out) | exact HB.out))))
              (case aL => have := LMc35.out; omega)
              intro v758 w46 ho hb hg hat
              rw [← Ny757.out] at ho
              have n0_ := sk_' (blk_grown (g := gb723) (o := .cells #[.int .i64 a1_0, .int .i64 a1_1] 49 (0, 0)) (by (with_reducible repeat (first | refine kn_' ?_ _ | refine kd_' ?_ | refine ka_' ?_ _)); exact BK723.out) hg (Kd.R_away HO752.out (fun _ hk => hk.2)))
              have n1_ := sk_' (hb)
              have n2_ := sk_' (ho)
              clear BK723
              clear HB
              clear HO752
              have BK723 := n0_
              have HB := n1_
              have HO759 := n2_
              clear n0_ n1_ n2_
              clear ho hb hg hat
              refine hK.out _ _ ⟨(kc_' BK723.out 0).trans rfl, (kc_' BK723.out 1).trans rfl⟩ (fun hHeld => ?_)
              clear hK K
              refine norm_ (a' := ?_) ?_ ?_
              rotate_left
              ·
               show Act.put _ (some 49) _ = _
               simp only [Act.put, sa_', sz_', sc_', i64_w, i32_w]
               rfl
              refine one_ (i := 6) (N := some 51) #[true, true, true, true, true, true, true, false, true, true, true, false, false] rfl rfl (one_of HT_.out (by kernel_rfl)) (by decide) (fun K hK => ?_)
              refine Kd.R_lit_step k49 _ 49 ?hg (N := 51) ?hd (xs := ([(⟨a1_0, a1_1⟩ : S49)] : List (S49))) (inner := [.int .i64 a1_0, .int .i64 a1_1]) (ok := fun _ => True) (okp := fun _ => True) ?hr ?hp (fun _ hk => hk) trivial (Below.refl _ _) (Nat.le_refl _) (by simp) ?_; (case hd => rfl); (case hg => rfl); (case hr => first | (go_simp; done) | (go_simp; rfl)); (case hp => exact (Reps.c2 (show Kd.M k49 _ _ _ (⟨a1_0, a1_1⟩ : S49) [.int .i64 a1_0, .int .i64 a1_1] from (k49_mkM _ _ _ (⟨a1_0, a1_1⟩ : S49) )) (Reps.none _ _)))
              intro v761 w47 ho48 hb hg_ hnew_
              clear hg_ hnew_
              (first | rw [← Ny760.out] at ho48 | (simp only [Int.reduceToNat] at ho48; rw [← Ny760.out] at ho48))
              have n0_ := sk_' (Kd.R_elder' (by (with_reducible repeat (first | apply ra_' | apply rn_' | apply rd1_')); exact HO759.out) (Kd.R_base ho48) hb)
              have n1_ := sk_' (Kd.R_lower (Kd.R_newB (Kd.R_new' ho48 (Kd.R_lt (by (with_reducible repeat (first | apply ra_' | apply rn_' | apply rd1_')); exact HO759.out))) (g := gb723) (o := .cells #[.int .i64 a1_0, .int .i64 a1_1] 49 (0, 0)) (by (with_reducible repeat (first | refine kn_' ?_ _ | refine kd_' ?_ | refine ka_' ?_ _)); exact BK723.out)) (ps_' (by repeat (first | (with_reducible first | exact HB.out | apply pa_' | apply pn_' | apply pd_' | refine pt_' ?_ GE723.out) | exact HB.out))))
              have n2_ := sk_' (blk_below (g := gb723) (o := .cells #[.int .i64 a1_0, .int .i64 a1_1] 49 (0, 0)) (by (with_reducible repeat (first | refine kn_' ?_ _ | refine kd_' ?_ | refine ka_' ?_ _)); exact BK723.out) hb)
              have n3_ := sk_' (pp_' (by repeat (first | (with_reducible first | exact HB.out | apply pa_' | apply pn_' | apply pd_' | refine pt_' ?_ GE723.out) | exact HB.out)) hb)
              clear HO759
              clear BK723
              clear HB
              have HO759 := n0_
              have HO762 := n1_
              have BK723 := n2_
              have HB := n3_
              clear n0_ n1_ n2_ n3_
              clear hb ho48
              refine hK.out _ _ ⟨(kc_' BK723.out 0).trans rfl, (kc_' BK723.out 1).trans rfl⟩ (fun hHeld => ?_)
              clear hK K
              refine norm_ (a' := ?_) ?_ ?_
              rotate_left
              ·
               show Act.put _ (some 51) _ = _
               simp only [Act.put, sa_', sz_', sc_', i64_w, i32_w]
               rfl
              exact norm_ (by simp only [putAll, Act.put, sa_', sz_', sc_']) (hCont (v751, v758, v761) _ ⟨hHeld, (by (with_reducible repeat (first | apply ra_' | apply rn_' | apply rd1_')); exact xi_' HO759.out (fun _ hk => ⟨hk.2, hk.1⟩)), (by (with_reducible repeat (first | apply ra_' | apply rn_' | apply rd1_')); exact xi_' HO762.out (fun _ hk => ⟨hk.1.2, hk.2⟩)), (by (with_reducible repeat (first | refine kn_' ?_ _ | refine kd_' ?_ | refine ka_' ?_ _)); exact BK723.out), (by repeat (first | (with_reducible first | exact HB.out | apply pa_' | apply pn_' | apply pd_' | refine pt_' ?_ GE723.out) | exact HB.out))⟩)
             skip
             refine Kd.R_lit_step k49 _ 49 ?hg (N := 51) ?hd (xs := ([(⟨a1_0, a1_1⟩ : S49)] : List (S49))) (inner := [.int .i64 a1_0, .int .i64 a1_1]) (ok := fun _ => True) (okp := fun _ => True) ?hr ?hp (fun _ hk => hk) trivial (Below.refl _ _) (Nat.le_refl _) (by simp) ?_; (case hd => rfl); (case hg => rfl); (case hr => first | (go_simp; done) | (go_simp; rfl)); (case hp => exact (Reps.c2 (show Kd.M k49 _ _ _ (⟨a1_0, a1_1⟩ : S49) [.int .i64 a1_0, .int .i64 a1_1] from (k49_mkM _ _ _ (⟨a1_0, a1_1⟩ : S49) )) (Reps.none _ _)))
             intro v761 w46 ho47 hb hg_ hnew_
             clear hg_ hnew_
             (first | rw [← Ny760.out] at ho47 | (simp only [Int.reduceToNat] at ho47; rw [← Ny760.out] at ho47))
             have n0_ := sk_' (Kd.R_elder' (by (with_reducible repeat (first | apply ra_' | apply rn_' | apply rd1_')); exact HO752.out) (Kd.R_base ho47) hb)
             have n1_ := sk_' (Kd.R_lower (Kd.R_newB (Kd.R_new' ho47 (Kd.R_lt (by (with_reducible repeat (first | apply ra_' | apply rn_' | apply rd1_')); exact HO752.out))) (g := gb723) (o := .cells #[.int .i64 a1_0, .int .i64 a1_1] 49 (0, 0)) (by (with_reducible repeat (first | refine kn_' ?_ _ | refine kd_' ?_ | refine ka_' ?_ _)); exact BK723.out)) (ps_' (by repeat (first | (with_reducible first | exact HB.out | apply pa_' | apply pn_' | apply pd_' | refine pt_' ?_ GE723.out) | exact HB.out))))
             have n2_ := sk_' (blk_below (g := gb723) (o := .cells #[.int .i64 a1_0, .int .i64 a1_1] 49 (0, 0)) (by (with_reducible repeat (first | refine kn_' ?_ _ | refine kd_' ?_ | refine ka_' ?_ _)); exact BK723.out) hb)
             have n3_ := sk_' (pp_' (by repeat (first | (with_reducible first | exact HB.out | apply pa_' | apply pn_' | apply pd_' | refine pt_' ?_ GE723.out) | exact HB.out)) hb)
             clear HO752
             clear BK723
             clear HB
             have HO752 := n0_
             have HO762 := n1_
             have BK723 := n2_
             have HB := n3_
             clear n0_ n1_ n2_ n3_
             clear hb ho47
             refine hK.out _ _ ⟨(kc_' BK723.out 0).trans rfl, (kc_' BK723.out 1).trans rfl⟩ (fun hHeld => ?_)
             clear hK K
             refine norm_ (a' := ?_) ?_ ?_
             rotate_left
             ·
              show Act.put _ (some 51) _ = _
              simp only [Act.put, sa_', sz_', sc_', i64_w, i32_w]
              rfl
             refine one_ (i := 4) (N := some 49) #[true, true, true, true, true, true, true, false, true, true, true, false, false] rfl rfl (one_of HT_.out (by kernel_rfl)) (by decide) (fun K hK => ?_)
             refine Kd.R_append_rows_step k49 (w0 := w) w.heap.size (by rfl) (.tmp 45) (.tmp 48) 44 49 (.agg #[(.int .i64 0), (.int .i64 0)]) 16 rfl Try.underlying44 info49 rfl (by decide) (by omega) v751 y750 y753 _ _ _ (fun k_ => some k_ ≠ (v761 : Value).ownBlock ∧ k_ ≠ gb723) (fun _ => False) rfl rfl ?aO ?aR (fun _ _ h => h) (fun _ h => h.elim) ?aF ?aB ?aS ?aL ?_
             (case aR => repeat (first | exact (Kd.C_below HR756.out HB.out) | (with_reducible refine xg_' ?_ _) | (with_reducible refine xe_' ?_ _) | (with_reducible refine xf_' ?_)))
             (case aB => exact (by repeat (first | (with_reducible first | exact HB.out | apply pa_' | apply pn_' | apply pd_' | refine pt_' ?_ GE723.out) | exact HB.out)))
             (case aF => exact (fun k_ hk => ⟨Kd.fresh' (Kd.R_lt (by (with_reducible repeat (first | apply ra_' | apply rn_' | apply rd1_')); exact HO762.out)) k_ hk, Kd.freshB (g := gb723) (o := .cells #[.int .i64 a1_0, .int .i64 a1_1] 49 (0, 0)) (by (with_reducible repeat (first | refine kn_' ?_ _ | refine kd_' ?_ | refine ka_' ?_ _)); exact BK723.out) k_ hk⟩))
             (case aO => exact (by (with_reducible repeat (first | apply ra_' | apply rn_' | apply rd1_')); exact xi_' HO752.out (fun _ hk => ⟨hk.2, hk.1.2⟩)))
             (case aS => exact (ps_' (by repeat (first | (with_reducible first | exact HB.out | apply pa_' | apply pn_' | apply pd_' | refine pt_' ?_ GE723.out) | exact HB.out))))
             (case aL => have := LMc35.out; omega)
             intro v758 w48 ho hb hg hat
             rw [← Ny757.out] at ho
             have n0_ := sk_' (blk_grown (g := gb723) (o := .cells #[.int .i64 a1_0, .int .i64 a1_1] 49 (0, 0)) (by (with_reducible repeat (first | refine kn_' ?_ _ | refine kd_' ?_ | refine ka_' ?_ _)); exact BK723.out) hg (Kd.R_away HO752.out (fun _ hk => hk.1.2)))
             have n1_ := sk_' (Kd.R_after (ok := (fun k_ => k_ ≠ gb723)) (by (with_reducible repeat (first | apply ra_' | apply rn_' | apply rd1_')); exact xi_' HO762.out (fun _ hk => ⟨hk.2, hk.1.2⟩)) hg hat)
             have n2_ := sk_' (hb)
             have n3_ := sk_' (ho)
             clear BK723
             clear HO762
             clear HB
             clear HO752
             have BK723 := n0_
             have HO762 := n1_
             have HB := n2_
             have HO759 := n3_
             clear n0_ n1_ n2_ n3_
             clear ho hb hg hat
             refine hK.out _ _ ⟨(kc_' BK723.out 0).trans rfl, (kc_' BK723.out 1).trans rfl⟩ (fun hHeld => ?_)
             clear hK K
             refine norm_ (a' := ?_) ?_ ?_
             rotate_left
             ·
              show Act.put _ (some 49) _ = _
              simp only [Act.put, sa_', sz_', sc_', i64_w, i32_w]
              rfl
             exact norm_ (by simp only [putAll, Act.put, sa_', sz_', sc_']) (hCont (v751, v758, v761) _ ⟨hHeld, (by (with_reducible repeat (first | apply ra_' | apply rn_' | apply rd1_')); exact HO759.out), (by (with_reducible repeat (first | apply ra_' | apply rn_' | apply rd1_')); exact xi_' HO762.out (fun _ hk => ⟨hk.2, hk.1⟩)), (by (with_reducible repeat (first | refine kn_' ?_ _ | refine kd_' ?_ | refine ka_' ?_ _)); exact BK723.out), (by repeat (first | (with_reducible first | exact HB.out | apply pa_' | apply pn_' | apply pd_' | refine pt_' ?_ GE723.out) | exact HB.out))⟩)
            skip
            refine Kd.R_lit_step k49 _ 49 ?hg (N := 51) ?hd (xs := ([(⟨a1_0, a1_1⟩ : S49)] : List (S49))) (inner := [.int .i64 a1_0, .int .i64 a1_1]) (ok := fun _ => True) (okp := fun _ => True) ?hr ?hp (fun _ hk => hk) trivial (Below.refl _ _) (Nat.le_refl _) (by simp) ?_; (case hd => rfl); (case hg => rfl); (case hr => first | (go_simp; done) | (go_simp; rfl)); (case hp => exact (Reps.c2 (show Kd.M k49 _ _ _ (⟨a1_0, a1_1⟩ : S49) [.int .i64 a1_0, .int .i64 a1_1] from (k49_mkM _ _ _ (⟨a1_0, a1_1⟩ : S49) )) (Reps.none _ _)))
            intro v761 w44 ho45 hb hg_ hnew_
            clear hg_ hnew_
            (first | rw [← Ny760.out] at ho45 | (simp only [Int.reduceToNat] at ho45; rw [← Ny760.out] at ho45))
            have n0_ := sk_' (Kd.R_lower (Kd.R_newB ho45 (g := gb723) (o := .cells #[.int .i64 a1_0, .int .i64 a1_1] 49 (0, 0)) (by (with_reducible repeat (first | refine kn_' ?_ _ | refine kd_' ?_ | refine ka_' ?_ _)); exact BK723.out)) (ps_' (by repeat (first | (with_reducible first | exact HB.out | apply pa_' | apply pn_' | apply pd_' | refine pt_' ?_ GE723.out) | exact HB.out))))
            have n1_ := sk_' (blk_below (g := gb723) (o := .cells #[.int .i64 a1_0, .int .i64 a1_1] 49 (0, 0)) (by (with_reducible repeat (first | refine kn_' ?_ _ | refine kd_' ?_ | refine ka_' ?_ _)); exact BK723.out) hb)
            have n2_ := sk_' (pp_' (by repeat (first | (with_reducible first | exact HB.out | apply pa_' | apply pn_' | apply pd_' | refine pt_' ?_ GE723.out) | exact HB.out)) hb)
            clear BK723
            clear HB
            have HO762 := n0_
            have BK723 := n1_
            have HB := n2_
            clear n0_ n1_ n2_
            clear hb ho45
            refine hK.out _ _ ⟨(kc_' BK723.out 0).trans rfl, (kc_' BK723.out 1).trans rfl⟩ (fun hHeld => ?_)
            clear hK K
            refine norm_ (a' := ?_) ?_ ?_
            rotate_left
            ·
             show Act.put _ (some 51) _ = _
             simp only [Act.put, sa_', sz_', sc_', i64_w, i32_w]
             rfl
            refine one_ (i := 0) (N := some 45) #[true, true, true, true, false, true, true, false, true, true, true, false, false] rfl rfl (one_of HT_.out (by kernel_rfl)) (by decide) (fun K hK => ?_)
            refine Kd.R_lit_step k49 _ 49 ?hg (N := 45) ?hd (xs := ([] : List (S49))) (inner := []) (ok := fun _ => True) (okp := fun _ => True) ?hr ?hp (fun _ hk => hk) trivial (Below.refl _ _) (Nat.le_refl _) (by simp) ?_; (case hd => rfl); (case hg => rfl); (case hr => first | (go_simp; done) | (go_simp; rfl)); (case hp => exact (Reps.none _ _))
            intro v751 w46 ho47 hb hg_ hnew_
            clear hg_ hnew_
            (first | rw [← Ny750.out] at ho47 | (simp only [Int.reduceToNat] at ho47; rw [← Ny750.out] at ho47))
            have n0_ := sk_' (Kd.R_elder' (by (with_reducible repeat (first | apply ra_' | apply rn_' | apply rd1_')); exact HO762.out) (Kd.R_base ho47) hb)
            have n1_ := sk_' (Kd.R_lower (Kd.R_newB (Kd.R_new' ho47 (Kd.R_lt (by (with_reducible repeat (first | apply ra_' | apply rn_' | apply rd1_')); exact HO762.out))) (g := gb723) (o := .cells #[.int .i64 a1_0, .int .i64 a1_1] 49 (0, 0)) (by (with_reducible repeat (first | refine kn_' ?_ _ | refine kd_' ?_ | refine ka_' ?_ _)); exact BK723.out)) (ps_' (by repeat (first | (with_reducible first | exact HB.out | apply pa_' | apply pn_' | apply pd_' | refine pt_' ?_ GE723.out) | exact HB.out))))
            have n2_ := sk_' (blk_below (g := gb723) (o := .cells #[.int .i64 a1_0, .int .i64 a1_1] 49 (0, 0)) (by (with_reducible repeat (first | refine kn_' ?_ _ | refine kd_' ?_ | refine ka_' ?_ _)); exact BK723.out) hb)
            have n3_ := sk_' (pp_' (by repeat (first | (with_reducible first | exact HB.out | apply pa_' | apply pn_' | apply pd_' | refine pt_' ?_ GE723.out) | exact HB.out)) hb)
            clear HO762
            clear BK723
            clear HB
            have HO762 := n0_
            have HO752 := n1_
            have BK723 := n2_
            have HB := n3_
            clear n0_ n1_ n2_ n3_
            clear hb ho47
            refine hK.out _ _ ⟨(kc_' BK723.out 0).trans rfl, (kc_' BK723.out 1).trans rfl⟩ (fun hHeld => ?_)
            clear hK K
            refine norm_ (a' := ?_) ?_ ?_
            rotate_left
            ·
             show Act.put _ (some 45) _ = _
             simp only [Act.put, sa_', sz_', sc_', i64_w, i32_w]
             rfl
            refine one_ (i := 4) (N := some 49) #[true, true, true, true, true, true, true, false, true, true, true, false, false] rfl rfl (one_of HT_.out (by kernel_rfl)) (by decide) (fun K hK => ?_)
            refine Kd.R_append_rows_step k49 (w0 := w) w.heap.size (by rfl) (.tmp 45) (.tmp 48) 44 49 (.agg #[(.int .i64 0), (.int .i64 0)]) 16 rfl Try.underlying44 info49 rfl (by decide) (by omega) v751 y750 y753 _ _ _ (fun k_ => some k_ ≠ (v761 : Value).ownBlock ∧ k_ ≠ gb723) (fun _ => False) rfl rfl ?aO ?aR (fun _ _ h => h) (fun _ h => h.elim) ?aF ?aB ?aS ?aL ?_
            (case aR => repeat (first | exact (Kd.C_below HR756.out HB.out) | (with_reducible refine xg_' ?_ _) | (with_reducible refine xe_' ?_ _) | (with_reducible refine xf_' ?_)))
            (case aB => exact (by repeat (first | (with_reducible first | exact HB.out | apply pa_' | apply pn_' | apply pd_' | refine pt_' ?_ GE723.out) | exact HB.out)))
            (case aF => exact (fun k_ hk => ⟨Kd.fresh' (Kd.R_lt (by (with_reducible repeat (first | apply ra_' | apply rn_' | apply rd1_')); exact HO762.out)) k_ hk, Kd.freshB (g := gb723) (o := .cells #[.int .i64 a1_0, .int .i64 a1_1] 49 (0, 0)) (by (with_reducible repeat (first | refine kn_' ?_ _ | refine kd_' ?_ | refine ka_' ?_ _)); exact BK723.out) k_ hk⟩))
            (case aO => exact (by (with_reducible repeat (first | apply ra_' | apply rn_' | apply rd1_')); exact xi_' HO752.out (fun _ hk => ⟨hk.1.2, hk.2⟩)))
            (case aS => exact (ps_' (by repeat (first | (with_reducible first | exact HB.out | apply pa_' | apply pn_' | apply pd_' | refine pt_' ?_ GE723.out) | exact HB.out))))
            (case aL => have := LMc35.out; omega)
            intro v758 w48 ho hb hg hat
            rw [← Ny757.out] at ho
            have n0_ := sk_' (blk_grown (g := gb723) (o := .cells #[.int .i64 a1_0, .int .i64 a1_1] 49 (0, 0)) (by (with_reducible repeat (first | refine kn_' ?_ _ | refine kd_' ?_ | refine ka_' ?_ _)); exact BK723.out) hg (Kd.R_away HO752.out (fun _ hk => hk.2)))
            have n1_ := sk_' (Kd.R_after (ok := (fun k_ => k_ ≠ gb723)) (by (with_reducible repeat (first | apply ra_' | apply rn_' | apply rd1_')); exact xi_' HO762.out (fun _ hk => ⟨hk.1.2, hk.2⟩)) hg hat)
            have n2_ := sk_' (hb)
            have n3_ := sk_' (ho)
            clear BK723
            clear HO762
            clear HB
            clear HO752
            have BK723 := n0_
            have HO762 := n1_
            have HB := n2_
            have HO759 := n3_
            clear n0_ n1_ n2_ n3_
            clear ho hb hg hat
            refine hK.out _ _ ⟨(kc_' BK723.out 0).trans rfl, (kc_' BK723.out 1).trans rfl⟩ (fun hHeld => ?_)
            clear hK K
            refine norm_ (a' := ?_) ?_ ?_
            rotate_left
            ·
             show Act.put _ (some 49) _ = _
             simp only [Act.put, sa_', sz_', sc_', i64_w, i32_w]
             rfl
            exact norm_ (by simp only [putAll, Act.put, sa_', sz_', sc_']) (hCont (v751, v758, v761) _ ⟨hHeld, (by (with_reducible repeat (first | apply ra_' | apply rn_' | apply rd1_')); exact HO759.out), (by (with_reducible repeat (first | apply ra_' | apply rn_' | apply rd1_')); exact xi_' HO762.out (fun _ hk => ⟨hk.2, hk.1⟩)), (by (with_reducible repeat (first | refine kn_' ?_ _ | refine kd_' ?_ | refine ka_' ?_ _)); exact BK723.out), (by repeat (first | (with_reducible first | exact HB.out | apply pa_' | apply pn_' | apply pd_' | refine pt_' ?_ GE723.out) | exact HB.out))⟩)
           rintro ⟨v751, v758, v761⟩ w49 ⟨hS_, h0_, h1_, h2_, h3_⟩
           have n0_ : Aside0 (Kd.R k49 49 w49 w.heap.size (fun k_ => some k_ ≠ (v761 : Value).ownBlock ∧ k_ ≠ gb723) v758 y757) := ⟨h0_⟩
           have n1_ : Aside0 (Kd.R k49 49 w49 w.heap.size (fun k_ => some k_ ≠ (v758 : Value).ownBlock ∧ k_ ≠ gb723) v761 y760) := ⟨h1_⟩
           have n2_ : Aside0 (w49.heap[gb723]? = some (.cells #[.int .i64 a1_0, .int .i64 a1_1] 49 (0, 0))) := ⟨h2_⟩
           have n3_ : Aside0 (Below w.heap.size w w49) := ⟨h3_⟩
           clear BK723
           clear HB
           clear h0_ h1_ h2_ h3_
           have HO759 := n0_
           have HO762 := n1_
           have BK723 := n2_
           have HB := n3_
           clear n0_ n1_ n2_ n3_
           have hHeld : w49.cell? ⟨gb723, 0, none⟩ = some (.int .i64 a1_0) ∧ w49.cell? ⟨gb723, 1, none⟩ = some (.int .i64 a1_1) := hS_
           obtain ⟨Ao51, co51, eo51⟩ := Kd.R_slice HO762.out
           (first | subst eo51 | (injection eo51 with f1_ f2_ f3_; have f4_ := f1_.symm; have f5_ := f3_.symm; clear f1_ f2_ f3_; subst f4_; subst f5_))
           refine norm_ (a' := ?_) ?_ ?_
           rotate_left
           ·
            simp only [putAll, Act.put, sa_', sz_', sc_']
            rfl
           refine one_ (i := 7) (N := some 52) #[true, true, true, true, true, true, true, true, true, true, true, false, false] rfl rfl (one_of HT_.out (by kernel_rfl)) (by decide) (fun K hK => ?_)
           refine Kd.R_append_rows_step k49 (w0 := w) w.heap.size (by rfl) (.tmp 49) (.tmp 51) 44 49 (.agg #[(.int .i64 0), (.int .i64 0)]) 16 rfl Try.underlying44 info49 rfl (by decide) (by omega) v758 y757 y760 _ _ _ (fun k_ => some k_ ≠ (.slice Ao51 y760.length co51 : Value).ownBlock ∧ k_ ≠ gb723) (fun _ => False) rfl rfl ?aO ?aR (fun _ _ h => h) (fun _ h => h.elim) ?aF ?aB ?aS ?aL ?_
           (case aR => repeat (first | exact (xr_' HO762.out).2.2 | (with_reducible refine xg_' ?_ _) | (with_reducible refine xe_' ?_ _) | (with_reducible refine xf_' ?_)))
           (case aB => exact (by repeat (first | (with_reducible first | exact HB.out | apply pa_' | apply pn_' | apply pd_' | refine pt_' ?_ GE723.out) | exact HB.out)))
           (case aF => exact (fun k_ hk => ⟨Kd.fresh' (Kd.R_lt (by (with_reducible repeat (first | apply ra_' | apply rn_' | apply rd1_')); exact HO762.out)) k_ hk, Kd.freshB (g := gb723) (o := .cells #[.int .i64 a1_0, .int .i64 a1_1] 49 (0, 0)) (by (with_reducible repeat (first | refine kn_' ?_ _ | refine kd_' ?_ | refine ka_' ?_ _)); exact BK723.out) k_ hk⟩))
           (case aO => exact (by (with_reducible repeat (first | apply ra_' | apply rn_' | apply rd1_')); exact HO759.out))
           (case aS => exact (ps_' (by repeat (first | (with_reducible first | exact HB.out | apply pa_' | apply pn_' | apply pd_' | refine pt_' ?_ GE723.out) | exact HB.out))))
           (case aL => have := LMc36.out; omega)
           intro v764 w50 ho hb hg hat
           rw [← Ny763.out] at ho
           have n0_ := sk_' (blk_grown (g := gb723) (o := .cells #[.int .i64 a1_0, .int .i64 a1_1] 49 (0, 0)) (by (with_reducible repeat (first | refine kn_' ?_ _ | refine kd_' ?_ | refine ka_' ?_ _)); exact BK723.out) hg (Kd.R_away HO759.out (fun _ hk => hk.2)))
           have n1_ := sk_' (Kd.R_after (ok := (fun k_ => k_ ≠ gb723)) (by (with_reducible repeat (first | apply ra_' | apply rn_' | apply rd1_')); exact xi_' HO762.out (fun _ hk => ⟨hk.2, hk.1⟩)) hg hat)
           have n2_ := sk_' (hb)
           have n3_ := sk_' (ho)
           clear BK723
           clear HO762
           clear HB
           clear HO759
           have BK723 := n0_
           have HO762 := n1_
           have HB := n2_
           have HO765 := n3_
           clear n0_ n1_ n2_ n3_
           clear ho hb hg hat
           refine hK.out _ _ ⟨(kc_' BK723.out 0).trans rfl, (kc_' BK723.out 1).trans rfl⟩ (fun hHeld => ?_)
           clear hK K
           refine norm_ (a' := ?_) ?_ ?_
           rotate_left
           ·
            show Act.put _ (some 52) _ = _
            simp only [Act.put, sa_', sz_', sc_', i64_w, i32_w]
            rfl
           refine one_ (i := 11) (N := some 56) #[true, true, true, true, true, true, true, true, true, true, true, true, false] rfl rfl (one_of HT_.out (by kernel_rfl)) (by decide) (fun K hK => ?_)
           refine Kd.R_append_rows_step k49 (w0 := w) w.heap.size (by rfl) (.tmp 52) (.tmp 55) 44 49 (.agg #[(.int .i64 0), (.int .i64 0)]) 16 rfl Try.underlying44 info49 rfl (by decide) (by omega) v764 y763 y766 _ _ _ (fun k_ => some k_ ≠ (.slice Ao51 y760.length co51 : Value).ownBlock ∧ k_ ≠ gb723) (fun _ => False) rfl rfl ?aO ?aR (fun _ _ h => h) (fun _ h => h.elim) ?aF ?aB ?aS ?aL ?_
           (case aR => repeat (first | exact (Kd.C_below HR769.out HB.out) | (with_reducible refine xg_' ?_ _) | (with_reducible refine xe_' ?_ _) | (with_reducible refine xf_' ?_)))
           (case aB => exact (by repeat (first | (with_reducible first | exact HB.out | apply pa_' | apply pn_' | apply pd_' | refine pt_' ?_ GE723.out) | exact HB.out)))
           (case aF => exact (fun k_ hk => ⟨Kd.fresh' (Kd.R_lt (by (with_reducible repeat (first | apply ra_' | apply rn_' | apply rd1_')); exact HO762.out)) k_ hk, Kd.freshB (g := gb723) (o := .cells #[.int .i64 a1_0, .int .i64 a1_1] 49 (0, 0)) (by (with_reducible repeat (first | refine kn_' ?_ _ | refine kd_' ?_ | refine ka_' ?_ _)); exact BK723.out) k_ hk⟩))
           (case aO => exact (by (with_reducible repeat (first | apply ra_' | apply rn_' | apply rd1_')); exact HO765.out))
           (case aS => exact (ps_' (by repeat (first | (with_reducible first | exact HB.out | apply pa_' | apply pn_' | apply pd_' | refine pt_' ?_ GE723.out) | exact HB.out))))
           (case aL => have := LMc39.out; omega)
           intro v771 w52 ho hb hg hat
           rw [← Ny770.out] at ho
           have n0_ := sk_' (blk_grown (g := gb723) (o := .cells #[.int .i64 a1_0, .int .i64 a1_1] 49 (0, 0)) (by (with_reducible repeat (first | refine kn_' ?_ _ | refine kd_' ?_ | refine ka_' ?_ _)); exact BK723.out) hg (Kd.R_away HO765.out (fun _ hk => hk.2)))
           have n1_ := sk_' (Kd.R_after (ok := (fun k_ => k_ ≠ gb723)) (by (with_reducible repeat (first | apply ra_' | apply rn_' | apply rd1_')); exact HO762.out) hg hat)
           have n2_ := sk_' (hb)
           have n3_ := sk_' (ho)
           clear BK723
           clear HO762
           clear HB
           clear HO765
           have BK723 := n0_
           have HO762 := n1_
           have HB := n2_
           have HO772 := n3_
           clear n0_ n1_ n2_ n3_
           clear ho hb hg hat
           refine hK.out _ _ ⟨(kc_' BK723.out 0).trans rfl, (kc_' BK723.out 1).trans rfl⟩ (fun hHeld => ?_)
           clear hK K
           refine norm_ (a' := ?_) ?_ ?_
           rotate_left
           ·
            show Act.put _ (some 56) _ = _
            simp only [Act.put, sa_', sz_', sc_', i64_w, i32_w]
            rfl
           refine pure_ (i := 12) (N := some 4) (v := ?_) (a' := ?_) #[true, true, true, true, true, true, true, true, true, true, true, true, true] rfl rfl (any_of HT_.out (by kernel_rfl)) (fun _ _ _ h => h) (Or.inl ⟨by rfl, ?_⟩) ?_ ?_
           rotate_left
           ·
            intro w'
            go_simp
            with_reducible rfl
           rotate_left
           ·
            simp only [Act.put, sa_', sz_', sc_', i64_w, i32_w]
            rfl
           refine done_ (done_of HT_.out (by kernel_rfl)) ?_
           try go_wp2
           go_ret
           exact ⟨_, by first | rfl | (simp [errW_none, errW_some] <;> rfl) | (simp only [← hji5]; first | rfl | (simp [errW_none, errW_some] <;> rfl)) | (simp [*, errW_none, errW_some] <;> rfl), by (with_reducible repeat (first | apply ra_' | apply rn_' | apply rd1_')); exact xi_' HO772.out (fun _ hk => trivial), by repeat (first | (with_reducible first | exact HB.out | apply pa_' | apply pn_' | apply pd_' | refine pt_' ?_ GE723.out) | exact HB.out)⟩
          rw [if_neg c39] at H
          exact absurd H (by simp)
         rw [if_neg c36] at H
         exact absurd H (by simp)
        rw [if_neg c35] at H
        exact absurd H (by simp)
       rw [if_neg c34] at H
       exact absurd H (by simp)
      rw [if_neg c33] at H
      exact absurd H (by simp)
     rw [if_neg c7] at H
     exact absurd H (by simp)
    rw [if_neg c6] at H
    exact absurd H (by simp)
   rw [if_neg c4] at H
   have c4b0 : decide (0 < x5_1) = false := decide_eq_false c4
   clear c4
   obtain ⟨y773, hy773⟩ : ∃ y_ : List (S49), y_ = (([] : List (S49))) := ⟨_, rfl⟩
   replace H : (if 0 ≤ x5_1 then (if x5_1 ≤ (l0.length : Int) then ((some (l0.take (x5_1 : Int).toNat : List (S49))).bind fun y776 => (if y773.length + y776.length < 8796093022208 then ((some (y773 ++ y776 : List (S49))).bind fun y780 => ((some (([(⟨a1_0, a1_1⟩ : S49)] : List (S49)) : List (S49))).bind fun y783 => (if y780.length + y783.length < 8796093022208 then ((some (y780 ++ y783 : List (S49))).bind fun y786 => ((some (l0.drop (x5_1 : Int).toNat : List (S49))).bind fun y789 => (if y786.length + y789.length < 8796093022208 then (some (y786 ++ y789)) else (none)))) else (none)))) else (none))) else (none)) else (none)) = some r := by first | (rw [hy773]; with_reducible exact H) | (have H2_ := (Option.bind_some _ _).symm.trans H; rw [hy773]; with_reducible exact H2_) | (have H2_ := (Option.bind_some _ _).symm.trans H; with_reducible exact H2_) | with_reducible exact H | (rw [hy773]; exact H) | exact H
   have Ny773 := sk_' hy773
   clear hy773
   by_cases c53 : 0 ≤ x5_1
   ·
    rw [if_pos c53] at H
    have c53b0 := eq_true c53
    have c53b1 : decide (0 ≤ x5_1) = true := decide_eq_true c53
    clear c53
    by_cases c54 : x5_1 ≤ (l0.length : Int)
    ·
     rw [if_pos c54] at H
     have c54b0 := eq_true c54
     have c54b1 : decide (x5_1 ≤ (l0.length : Int)) = true := decide_eq_true c54
     clear c54
     obtain ⟨y776, hy776⟩ : ∃ y_ : List (S49), y_ = (l0.take (x5_1 : Int).toNat) := ⟨_, rfl⟩
     replace H : (if y773.length + y776.length < 8796093022208 then ((some (y773 ++ y776 : List (S49))).bind fun y780 => ((some (([(⟨a1_0, a1_1⟩ : S49)] : List (S49)) : List (S49))).bind fun y783 => (if y780.length + y783.length < 8796093022208 then ((some (y780 ++ y783 : List (S49))).bind fun y786 => ((some (l0.drop (x5_1 : Int).toNat : List (S49))).bind fun y789 => (if y786.length + y789.length < 8796093022208 then (some (y786 ++ y789)) else (none)))) else (none)))) else (none)) = some r := by first | (rw [hy776]; with_reducible exact H) | (have H2_ := (Option.bind_some _ _).symm.trans H; rw [hy776]; with_reducible exact H2_) | (have H2_ := (Option.bind_some _ _).symm.trans H; with_reducible exact H2_) | with_reducible exact H | (rw [hy776]; exact H) | exact H
     have Ny776 := sk_' hy776
     clear hy776
     by_cases c55 : y773.length + y776.length < 8796093022208
     ·
      rw [if_pos c55] at H
      have LMc55 := sk_' c55
      clear c55
      obtain ⟨y780, hy780⟩ : ∃ y_ : List (S49), y_ = (y773 ++ y776) := ⟨_, rfl⟩
      replace H : ((some (([(⟨a1_0, a1_1⟩ : S49)] : List (S49)) : List (S49))).bind fun y783 => (if y780.length + y783.length < 8796093022208 then ((some (y780 ++ y783 : List (S49))).bind fun y786 => ((some (l0.drop (x5_1 : Int).toNat : List (S49))).bind fun y789 => (if y786.length + y789.length < 8796093022208 then (some (y786 ++ y789)) else (none)))) else (none))) = some r := by first | (rw [hy780]; with_reducible exact H) | (have H2_ := (Option.bind_some _ _).symm.trans H; rw [hy780]; with_reducible exact H2_) | (have H2_ := (Option.bind_some _ _).symm.trans H; with_reducible exact H2_) | with_reducible exact H | (rw [hy780]; exact H) | exact H
      have Ny780 := sk_' hy780
      clear hy780
      obtain ⟨y783, hy783⟩ : ∃ y_ : List (S49), y_ = (([(⟨a1_0, a1_1⟩ : S49)] : List (S49))) := ⟨_, rfl⟩
      replace H : (if y780.length + y783.length < 8796093022208 then ((some (y780 ++ y783 : List (S49))).bind fun y786 => ((some (l0.drop (x5_1 : Int).toNat : List (S49))).bind fun y789 => (if y786.length + y789.length < 8796093022208 then (some (y786 ++ y789)) else (none)))) else (none)) = some r := by first | (rw [hy783]; with_reducible exact H) | (have H2_ := (Option.bind_some _ _).symm.trans H; rw [hy783]; with_reducible exact H2_) | (have H2_ := (Option.bind_some _ _).symm.trans H; with_reducible exact H2_) | with_reducible exact H | (rw [hy783]; exact H) | exact H
      have Ny783 := sk_' hy783
      clear hy783
      by_cases c56 : y780.length + y783.length < 8796093022208
      ·
       rw [if_pos c56] at H
       have LMc56 := sk_' c56
       clear c56
       obtain ⟨y786, hy786⟩ : ∃ y_ : List (S49), y_ = (y780 ++ y783) := ⟨_, rfl⟩
       replace H : ((some (l0.drop (x5_1 : Int).toNat : List (S49))).bind fun y789 => (if y786.length + y789.length < 8796093022208 then (some (y786 ++ y789)) else (none))) = some r := by first | (rw [hy786]; with_reducible exact H) | (have H2_ := (Option.bind_some _ _).symm.trans H; rw [hy786]; with_reducible exact H2_) | (have H2_ := (Option.bind_some _ _).symm.trans H; with_reducible exact H2_) | with_reducible exact H | (rw [hy786]; exact H) | exact H
       have Ny786 := sk_' hy786
       clear hy786
       have c57b0 := eq_true (od_' (by first | (with_reducible assumption) | assumption) : 0 ≤ x5_1)
       have c58b0 := eq_true (od_' (by first | (with_reducible assumption) | assumption) : x5_1 ≤ (l0.length : Int))
       obtain ⟨y789, hy789⟩ : ∃ y_ : List (S49), y_ = (l0.drop (x5_1 : Int).toNat) := ⟨_, rfl⟩
       replace H : (if y786.length + y789.length < 8796093022208 then (some (y786 ++ y789)) else (none)) = some r := by first | (rw [hy789]; with_reducible exact H) | (have H2_ := (Option.bind_some _ _).symm.trans H; rw [hy789]; with_reducible exact H2_) | (have H2_ := (Option.bind_some _ _).symm.trans H; with_reducible exact H2_) | with_reducible exact H | (rw [hy789]; exact H) | exact H
       have Ny789 := sk_' hy789
       clear hy789
       by_cases c59 : y786.length + y789.length < 8796093022208
       ·
        rw [if_pos c59] at H
        have LMc59 := sk_' c59
        clear c59
        obtain ⟨y793, hy793⟩ : ∃ y_ : List (S49), y_ = (y786 ++ y789) := ⟨_, rfl⟩
        replace H : (some y793) = some r := by first | (rw [hy793]; with_reducible exact H) | (have H2_ := (Option.bind_some _ _).symm.trans H; rw [hy793]; with_reducible exact H2_) | (have H2_ := (Option.bind_some _ _).symm.trans H; with_reducible exact H2_) | with_reducible exact H | (rw [hy793]; exact H) | exact H
        have Ny793 := sk_' hy793
        clear hy793
        obtain rfl := Option.some.inj H
        try go_wp2
        have n0_ := sk_' (kd_' BK723.out)
        have n1_ := sk_' (pd_' HB.out)
        clear BK723
        clear HB
        have BK723 := n0_
        have HB := n1_
        clear n0_ n1_
        have hq0_ : True := trivial
        go_quiet (fail)
        have nBK723_ := sk_' (kn_' (w := wr) BK723.out nq)
        have nHB_ := sk_' (pn_' (W := wr) ⟨HB.out.os, HB.out.tape, HB.out.output, HB.out.size, HB.out.block⟩ nq)
        clear BK723 HB hq0_
        have BK723 := nBK723_
        have HB := nHB_
        clear nBK723_ nHB_
        generalize wr.drewN nq = w60 at BK723 HB ⊢
        try go_wp2
        have n0_ := sk_' (kd_' BK723.out)
        have n1_ := sk_' (pd_' HB.out)
        clear BK723
        clear HB
        have BK723 := n0_
        have HB := n1_
        clear n0_ n1_
        have q62 : (x5_1 : Int) ≤ ((l0.length : Int) : Int) := od_' (by first | (with_reducible assumption) | assumption)
        obtain ⟨i062, hi062, _, hsz62, _⟩ := info_parts info49
        have hroom62 : l0.length ≤ c0 := HC0.out
        have hC62 : Kd.C k49 _ A0 l0.length l0 := HR0.out
        have hcut62 := cut_to (P := Try.prog) 44 49 .i64 Try.underlying44 hi062 A0 l0.length c0 x5_1 (od_' (by first | (with_reducible assumption) | assumption)) q62 hroom62
        have hr62 := Kd.C_take (m := (x5_1 : Int).toNat) hC62 (by omega)
        have hy62 : y776.length = (x5_1 : Int).toNat := (by rw [Ny776.out, xt_']; omega)
        rw [← Ny776.out] at hr62
        rw [← hy62] at hcut62
        have HR779 := sk_' hr62
        have HC779 := sk_' (show y776.length ≤ c0 from by omega)
        clear hr62 hC62 hroom62 hi062 hsz62
        have KY62 := sk_' hy62
        clear hy62
        replace q62 := eq_true q62
        have q63 : (x5_1 : Int) ≤ ((l0.length : Int) : Int) := od_' (by first | (with_reducible assumption) | assumption)
        obtain ⟨i063, hi063, _, hsz63, _⟩ := info_parts info49
        have hroom63 : l0.length ≤ c0 := HC0.out
        have hC63 : Kd.C k49 _ A0 l0.length l0 := HR0.out
        have q063 : (0 : Int) ≤ (x5_1 : Int) := od_' (by first | (with_reducible assumption) | assumption)
        have hcut63 := cut_from (P := Try.prog) 44 49 .i64 Try.underlying44 hi063 2 hsz63 A0 l0.length c0 x5_1 q063 q63
        have hr63 := Kd.C_drop (m := (x5_1 : Int).toNat) (c := c0) hC63 (by omega) hroom63
        obtain ⟨A63, hA63⟩ : ∃ A1, A1 = (if c0 = (x5_1 : Int).toNat then A0 else (A0 : Option Addr).map (·.add ((x5_1 : Int).toNat * 2))) := ⟨_, rfl⟩
        obtain ⟨c63, hc63⟩ : ∃ c1, c1 = c0 - (x5_1 : Int).toNat := ⟨_, rfl⟩
        have hy63 : y789.length = l0.length - (x5_1 : Int).toNat := (by rw [Ny789.out, xd_'] <;> omega)
        rw [show (l0).drop (x5_1 : Int).toNat = y789 from Ny789.out.symm] at hr63
        replace hr63 : Kd.C k49 _ A63 y789.length y789 := (by rw [hA63]; exact hr63)
        rw [← hy63, ← hA63, ← hc63] at hcut63
        have HR792 := sk_' hr63
        have HC792 := sk_' (show y789.length ≤ c63 from by rw [hy63, hc63]; exact Nat.sub_le_sub_right hroom63 _)
        clear hr63 hC63 hroom63 hi063 hsz63 hc63
        have KY63 := sk_' hy63
        have KA63 := sk_' hA63
        clear hy63 hA63
        replace q63 := eq_true q63
        refine start_ (n := 13) (S := fun w' => w'.cell? ⟨gb723, 0, none⟩ = some (.int .i64 a1_0) ∧ w'.cell? ⟨gb723, 1, none⟩ = some (.int .i64 a1_1)) (ds := []) #[false, false, false, false, false, false, false, false, false, false, false, false, false] (by kernel_rfl) rfl rfl ⟨(kc_' BK723.out 0).trans rfl, (kc_' BK723.out 1).trans rfl⟩ (fun hHeld => ?_); refine with_tabW spec_l14Put.tab4 spec_l14Put.bits4 (fun HT_ HW_ => ?_)
        generalize w60.drew = w61 at BK723 HB HR779 HR792 hHeld ⊢
        refine pure_ (i := 1) (N := some 46) (v := ?_) (a' := ?_) #[false, true, false, false, false, false, false, false, false, false, false, false, false] rfl rfl (any_of HT_.out (by kernel_rfl)) (fun _ _ _ h => h) (Or.inl ⟨by rfl, ?_⟩) ?_ ?_
        rotate_left
        ·
         intro w'
         go_simp
         with_reducible rfl
        rotate_left
        ·
         simp only [Act.put, sa_', sz_', sc_', i64_w, i32_w]
         rfl
        refine pure_ (i := 2) (N := some 47) (v := ?_) (a' := ?_) #[false, true, true, false, false, false, false, false, false, false, false, false, false] rfl rfl (any_of HT_.out (by kernel_rfl)) (fun _ _ _ h => h) (Or.inl ⟨by rfl, ?_⟩) ?_ ?_
        rotate_left
        ·
         intro w'
         go_simp
         with_reducible rfl
        rotate_left
        ·
         simp only [Act.put, sa_', sz_', sc_', i64_w, i32_w]
         rfl
        refine pure_ (i := 3) (N := some 48) (v := ?_) (a' := ?_) #[false, true, true, true, false, false, false, false, false, false, false, false, false] rfl rfl (any_of HT_.out (by kernel_rfl)) (fun _ _ _ h => h) (Or.inl ⟨by rfl, ?_⟩) ?_ ?_
        rotate_left
        ·
         intro w'
         go_simp
         with_reducible rfl
        rotate_left
        ·
         simp only [Act.put, sa_', sz_', sc_', i64_w, i32_w]
         rfl
        refine pure_ (i := 8) (N := some 53) (v := ?_) (a' := ?_) #[false, true, true, true, false, false, false, false, true, false, false, false, false] rfl rfl (any_of HT_.out (by kernel_rfl)) (fun _ _ _ h => h) (Or.inl ⟨by rfl, ?_⟩) ?_ ?_
        rotate_left
        ·
         intro w'
         go_simp
         with_reducible rfl
        rotate_left
        ·
         simp only [Act.put, sa_', sz_', sc_', i64_w, i32_w]
         rfl
        refine pure_ (i := 9) (N := some 54) (v := ?_) (a' := ?_) #[false, true, true, true, false, false, false, false, true, true, false, false, false] rfl rfl (any_of HT_.out (by kernel_rfl)) (fun _ _ _ h => h) (Or.inl ⟨by rfl, ?_⟩) ?_ ?_
        rotate_left
        ·
         intro w'
         go_simp
         with_reducible rfl
        rotate_left
        ·
         simp only [Act.put, sa_', sz_', sc_', i64_w, i32_w]
         rfl
        refine pure_ (i := 10) (N := some 55) (v := ?_) (a' := ?_) #[false, true, true, true, false, false, false, false, true, true, true, false, false] rfl rfl (any_of HT_.out (by kernel_rfl)) (fun _ _ _ h => h) (Or.inl ⟨by rfl, ?_⟩) ?_ ?_
        rotate_left
        ·
         intro w'
         go_simp
         with_reducible rfl
        rotate_left
        ·
         simp only [Act.put, sa_', sz_', sc_', i64_w, i32_w]
         rfl
        refine take_ (i := 5) (N := some 50) (v := ?_) (a' := ?_) #[false, true, true, true, false, true, false, false, true, true, true, false, false] rfl rfl (take_ofW HT_.out HW_.out (by kernel_rfl)) (fun _ _ _ h => h) (Or.inl ⟨by rfl, ?_⟩) hHeld ?_ ?_
        rotate_left
        ·
         rintro w' ⟨s0, s1⟩
         go_simp
         with_reducible rfl
        rotate_left
        ·
         simp only [Act.put, sa_', sz_', sc_', i64_w, i32_w]
         rfl
        refine join_ (σ := Value × Value × Value) 3 #[true, true, true, true, true, true, true, false, true, true, true, false, false] (fun s_ => [(45, s_.1), (49, s_.2.1), (51, s_.2.2)]) (fun s_ w' => (w'.cell? ⟨gb723, 0, none⟩ = some (.int .i64 a1_0) ∧ w'.cell? ⟨gb723, 1, none⟩ = some (.int .i64 a1_1)) ∧ (Kd.R k49 49 w' w.heap.size (fun k_ => some k_ ≠ (s_.2.2 : Value).ownBlock ∧ k_ ≠ gb723) s_.2.1 y780) ∧ (Kd.R k49 49 w' w.heap.size (fun k_ => some k_ ≠ (s_.2.1 : Value).ownBlock ∧ k_ ≠ gb723) s_.2.2 y783) ∧ (w'.heap[gb723]? = some (.cells #[.int .i64 a1_0, .int .i64 a1_1] 49 (0, 0))) ∧ (Below w.heap.size w w')) ?_ ?_
        rotate_left
        ·
         intro hCont
         refine two_ (i := 0) (j := 6) (Ni := some 45) (Nj := some 51) #[true, true, true, true, false, true, false, false, true, true, true, false, false] #[false, true, true, true, false, true, true, false, true, true, true, false, false] rfl rfl rfl rfl (two_of HT_.out (by kernel_rfl)) (by decide) (by decide) (fun K hK => ?_) (fun K hK => ?_)
         ·
          skip
          refine Kd.R_lit_step k49 _ 49 ?hg (N := 45) ?hd (xs := ([] : List (S49))) (inner := []) (ok := fun _ => True) (okp := fun _ => True) ?hr ?hp (fun _ hk => hk) trivial (Below.refl _ _) (Nat.le_refl _) (by simp) ?_; (case hd => rfl); (case hg => rfl); (case hr => first | (go_simp; done) | (go_simp; rfl)); (case hp => exact (Reps.none _ _))
          intro v774 w64 ho65 hb hg_ hnew_
          clear hg_ hnew_
          (first | rw [← Ny773.out] at ho65 | (simp only [Int.reduceToNat] at ho65; rw [← Ny773.out] at ho65))
          have n0_ := sk_' (Kd.R_lower (Kd.R_newB ho65 (g := gb723) (o := .cells #[.int .i64 a1_0, .int .i64 a1_1] 49 (0, 0)) (by (with_reducible repeat (first | refine kn_' ?_ _ | refine kd_' ?_ | refine ka_' ?_ _)); exact BK723.out)) (ps_' (by repeat (first | (with_reducible first | exact HB.out | apply pa_' | apply pn_' | apply pd_' | refine pt_' ?_ GE723.out) | exact HB.out))))
          have n1_ := sk_' (blk_below (g := gb723) (o := .cells #[.int .i64 a1_0, .int .i64 a1_1] 49 (0, 0)) (by (with_reducible repeat (first | refine kn_' ?_ _ | refine kd_' ?_ | refine ka_' ?_ _)); exact BK723.out) hb)
          have n2_ := sk_' (pp_' (by repeat (first | (with_reducible first | exact HB.out | apply pa_' | apply pn_' | apply pd_' | refine pt_' ?_ GE723.out) | exact HB.out)) hb)
          clear BK723
          clear HB
          have HO775 := n0_
          have BK723 := n1_
          have HB := n2_
          clear n0_ n1_ n2_
          clear hb ho65
          refine hK.out _ _ ⟨(kc_' BK723.out 0).trans rfl, (kc_' BK723.out 1).trans rfl⟩ (fun hHeld => ?_)
          clear hK K
          refine norm_ (a' := ?_) ?_ ?_
          rotate_left
          ·
           show Act.put _ (some 45) _ = _
           simp only [Act.put, sa_', sz_', sc_', i64_w, i32_w]
           rfl
          refine two_ (i := 4) (j := 6) (Ni := some 49) (Nj := some 51) #[true, true, true, true, true, true, false, false, true, true, true, false, false] #[true, true, true, true, false, true, true, false, true, true, true, false, false] rfl rfl rfl rfl (two_of HT_.out (by kernel_rfl)) (by decide) (by decide) (fun K hK => ?_) (fun K hK => ?_)
          ·
           skip
           refine Kd.R_append_rows_step k49 (w0 := w) w.heap.size (by rfl) (.tmp 45) (.tmp 48) 44 49 (.agg #[(.int .i64 0), (.int .i64 0)]) 16 rfl Try.underlying44 info49 rfl (by decide) (by omega) v774 y773 y776 _ _ _ (fun k_ => k_ ≠ gb723) (fun _ => False) rfl rfl ?aO ?aR (fun _ _ h => h) (fun _ h => h.elim) ?aF ?aB ?aS ?aL ?_
           (case aR => repeat (first | exact (Kd.C_below HR779.out HB.out) | (with_reducible refine xg_' ?_ _) | (with_reducible refine xe_' ?_ _) | (with_reducible refine xf_' ?_)))
           (case aB => exact (by repeat (first | (with_reducible first | exact HB.out | apply pa_' | apply pn_' | apply pd_' | refine pt_' ?_ GE723.out) | exact HB.out)))
           (case aF => exact (fun k_ hk => Kd.freshB (g := gb723) (o := .cells #[.int .i64 a1_0, .int .i64 a1_1] 49 (0, 0)) (by (with_reducible repeat (first | refine kn_' ?_ _ | refine kd_' ?_ | refine ka_' ?_ _)); exact BK723.out) k_ hk))
           (case aO => exact (by (with_reducible repeat (first | apply ra_' | apply rn_' | apply rd1_')); exact xi_' HO775.out (fun _ hk => hk.2)))
           (case aS => exact (ps_' (by repeat (first | (with_reducible first | exact HB.out | apply pa_' | apply pn_' | apply pd_' | refine pt_' ?_ GE723.out) | exact HB.out))))
           (case aL => have := LMc55.out; omega)
           intro v781 w66 ho hb hg hat
           rw [← Ny780.out] at ho
           have n0_ := sk_' (blk_grown (g := gb723) (o := .cells #[.int .i64 a1_0, .int .i64 a1_1] 49 (0, 0)) (by (with_reducible repeat (first | refine kn_' ?_ _ | refine kd_' ?_ | refine ka_' ?_ _)); exact BK723.out) hg (Kd.R_away HO775.out (fun _ hk => hk.2)))
           have n1_ := sk_' (hb)
           have n2_ := sk_' (ho)
           clear BK723
           clear HB
           clear HO775
           have BK723 := n0_
           have HB := n1_
           have HO782 := n2_
           clear n0_ n1_ n2_
           clear ho hb hg hat
           refine hK.out _ _ ⟨(kc_' BK723.out 0).trans rfl, (kc_' BK723.out 1).trans rfl⟩ (fun hHeld => ?_)
           clear hK K
           refine norm_ (a' := ?_) ?_ ?_
           rotate_left
           ·
            show Act.put _ (some 49) _ = _
            simp only [Act.put, sa_', sz_', sc_', i64_w, i32_w]
            rfl
           refine one_ (i := 6) (N := some 51) #[true, true, true, true, true, true, true, false, true, true, true, false, false] rfl rfl (one_of HT_.out (by kernel_rfl)) (by decide) (fun K hK => ?_)
           refine Kd.R_lit_step k49 _ 49 ?hg (N := 51) ?hd (xs := ([(⟨a1_0, a1_1⟩ : S49)] : List (S49))) (inner := [.int .i64 a1_0, .int .i64 a1_1]) (ok := fun _ => True) (okp := fun _ => True) ?hr ?hp (fun _ hk => hk) trivial (Below.refl _ _) (Nat.le_refl _) (by simp) ?_; (case hd => rfl); (case hg => rfl); (case hr => first | (go_simp; done) | (go_simp; rfl)); (case hp => exact (Reps.c2 (show Kd.M k49 _ _ _ (⟨a1_0, a1_1⟩ : S49) [.int .i64 a1_0, .int .i64 a1_1] from (k49_mkM _ _ _ (⟨a1_0, a1_1⟩ : S49) )) (Reps.none _ _)))
           intro v784 w67 ho68 hb hg_ hnew_
           clear hg_ hnew_
           (first | rw [← Ny783.out] at ho68 | (simp only [Int.reduceToNat] at ho68; rw [← Ny783.out] at ho68))
           have n0_ := sk_' (Kd.R_elder' (by (with_reducible repeat (first | apply ra_' | apply rn_' | apply rd1_')); exact HO782.out) (Kd.R_base ho68) hb)
           have n1_ := sk_' (Kd.R_lower (Kd.R_newB (Kd.R_new' ho68 (Kd.R_lt (by (with_reducible repeat (first | apply ra_' | apply rn_' | apply rd1_')); exact HO782.out))) (g := gb723) (o := .cells #[.int .i64 a1_0, .int .i64 a1_1] 49 (0, 0)) (by (with_reducible repeat (first | refine kn_' ?_ _ | refine kd_' ?_ | refine ka_' ?_ _)); exact BK723.out)) (ps_' (by repeat (first | (with_reducible first | exact HB.out | apply pa_' | apply pn_' | apply pd_' | refine pt_' ?_ GE723.out) | exact HB.out))))
           have n2_ := sk_' (blk_below (g := gb723) (o := .cells #[.int .i64 a1_0, .int .i64 a1_1] 49 (0, 0)) (by (with_reducible repeat (first | refine kn_' ?_ _ | refine kd_' ?_ | refine ka_' ?_ _)); exact BK723.out) hb)
           have n3_ := sk_' (pp_' (by repeat (first | (with_reducible first | exact HB.out | apply pa_' | apply pn_' | apply pd_' | refine pt_' ?_ GE723.out) | exact HB.out)) hb)
           clear HO782
           clear BK723
           clear HB
           have HO782 := n0_
           have HO785 := n1_
           have BK723 := n2_
           have HB := n3_
           clear n0_ n1_ n2_ n3_
           clear hb ho68
           refine hK.out _ _ ⟨(kc_' BK723.out 0).trans rfl, (kc_' BK723.out 1).trans rfl⟩ (fun hHeld => ?_)
           clear hK K
           refine norm_ (a' := ?_) ?_ ?_
           rotate_left
           ·
            show Act.put _ (some 51) _ = _
            simp only [Act.put, sa_', sz_', sc_', i64_w, i32_w]
            rfl
           exact norm_ (by simp only [putAll, Act.put, sa_', sz_', sc_']) (hCont (v774, v781, v784) _ ⟨hHeld, (by (with_reducible repeat (first | apply ra_' | apply rn_' | apply rd1_')); exact xi_' HO782.out (fun _ hk => ⟨hk.2, hk.1⟩)), (by (with_reducible repeat (first | apply ra_' | apply rn_' | apply rd1_')); exact xi_' HO785.out (fun _ hk => ⟨hk.1.2, hk.2⟩)), (by (with_reducible repeat (first | refine kn_' ?_ _ | refine kd_' ?_ | refine ka_' ?_ _)); exact BK723.out), (by repeat (first | (with_reducible first | exact HB.out | apply pa_' | apply pn_' | apply pd_' | refine pt_' ?_ GE723.out) | exact HB.out))⟩)
          skip
          refine Kd.R_lit_step k49 _ 49 ?hg (N := 51) ?hd (xs := ([(⟨a1_0, a1_1⟩ : S49)] : List (S49))) (inner := [.int .i64 a1_0, .int .i64 a1_1]) (ok := fun _ => True) (okp := fun _ => True) ?hr ?hp (fun _ hk => hk) trivial (Below.refl _ _) (Nat.le_refl _) (by simp) ?_; (case hd => rfl); (case hg => rfl); (case hr => first | (go_simp; done) | (go_simp; rfl)); (case hp => exact (Reps.c2 (show Kd.M k49 _ _ _ (⟨a1_0, a1_1⟩ : S49) [.int .i64 a1_0, .int .i64 a1_1] from (k49_mkM _ _ _ (⟨a1_0, a1_1⟩ : S49) )) (Reps.none _ _)))
          intro v784 w66 ho67 hb hg_ hnew_
          clear hg_ hnew_
          (first | rw [← Ny783.out] at ho67 | (simp only [Int.reduceToNat] at ho67; rw [← Ny783.out] at ho67))
          have n0_ := sk_' (Kd.R_elder' (by (with_reducible repeat (first | apply ra_' | apply rn_' | apply rd1_')); exact HO775.out) (Kd.R_base ho67) hb)
          have n1_ := sk_' (Kd.R_lower (Kd.R_newB (Kd.R_new' ho67 (Kd.R_lt (by (with_reducible repeat (first | apply ra_' | apply rn_' | apply rd1_')); exact HO775.out))) (g := gb723) (o := .cells #[.int .i64 a1_0, .int .i64 a1_1] 49 (0, 0)) (by (with_reducible repeat (first | refine kn_' ?_ _ | refine kd_' ?_ | refine ka_' ?_ _)); exact BK723.out)) (ps_' (by repeat (first | (with_reducible first | exact HB.out | apply pa_' | apply pn_' | apply pd_' | refine pt_' ?_ GE723.out) | exact HB.out))))
          have n2_ := sk_' (blk_below (g := gb723) (o := .cells #[.int .i64 a1_0, .int .i64 a1_1] 49 (0, 0)) (by (with_reducible repeat (first | refine kn_' ?_ _ | refine kd_' ?_ | refine ka_' ?_ _)); exact BK723.out) hb)
          have n3_ := sk_' (pp_' (by repeat (first | (with_reducible first | exact HB.out | apply pa_' | apply pn_' | apply pd_' | refine pt_' ?_ GE723.out) | exact HB.out)) hb)
          clear HO775
          clear BK723
          clear HB
          have HO775 := n0_
          have HO785 := n1_
          have BK723 := n2_
          have HB := n3_
          clear n0_ n1_ n2_ n3_
          clear hb ho67
          refine hK.out _ _ ⟨(kc_' BK723.out 0).trans rfl, (kc_' BK723.out 1).trans rfl⟩ (fun hHeld => ?_)
          clear hK K
          refine norm_ (a' := ?_) ?_ ?_
          rotate_left
          ·
           show Act.put _ (some 51) _ = _
           simp only [Act.put, sa_', sz_', sc_', i64_w, i32_w]
           rfl
          refine one_ (i := 4) (N := some 49) #[true, true, true, true, true, true, true, false, true, true, true, false, false] rfl rfl (one_of HT_.out (by kernel_rfl)) (by decide) (fun K hK => ?_)
          refine Kd.R_append_rows_step k49 (w0 := w) w.heap.size (by rfl) (.tmp 45) (.tmp 48) 44 49 (.agg #[(.int .i64 0), (.int .i64 0)]) 16 rfl Try.underlying44 info49 rfl (by decide) (by omega) v774 y773 y776 _ _ _ (fun k_ => some k_ ≠ (v784 : Value).ownBlock ∧ k_ ≠ gb723) (fun _ => False) rfl rfl ?aO ?aR (fun _ _ h => h) (fun _ h => h.elim) ?aF ?aB ?aS ?aL ?_
          (case aR => repeat (first | exact (Kd.C_below HR779.out HB.out) | (with_reducible refine xg_' ?_ _) | (with_reducible refine xe_' ?_ _) | (with_reducible refine xf_' ?_)))
          (case aB => exact (by repeat (first | (with_reducible first | exact HB.out | apply pa_' | apply pn_' | apply pd_' | refine pt_' ?_ GE723.out) | exact HB.out)))
          (case aF => exact (fun k_ hk => ⟨Kd.fresh' (Kd.R_lt (by (with_reducible repeat (first | apply ra_' | apply rn_' | apply rd1_')); exact HO785.out)) k_ hk, Kd.freshB (g := gb723) (o := .cells #[.int .i64 a1_0, .int .i64 a1_1] 49 (0, 0)) (by (with_reducible repeat (first | refine kn_' ?_ _ | refine kd_' ?_ | refine ka_' ?_ _)); exact BK723.out) k_ hk⟩))
          (case aO => exact (by (with_reducible repeat (first | apply ra_' | apply rn_' | apply rd1_')); exact xi_' HO775.out (fun _ hk => ⟨hk.2, hk.1.2⟩)))
          (case aS => exact (ps_' (by repeat (first | (with_reducible first | exact HB.out | apply pa_' | apply pn_' | apply pd_' | refine pt_' ?_ GE723.out) | exact HB.out))))
          (case aL => have := LMc55.out; omega)
          intro v781 w68 ho hb hg hat
          rw [← Ny780.out] at ho
          have n0_ := sk_' (blk_grown (g := gb723) (o := .cells #[.int .i64 a1_0, .int .i64 a1_1] 49 (0, 0)) (by (with_reducible repeat (first | refine kn_' ?_ _ | refine kd_' ?_ | refine ka_' ?_ _)); exact BK723.out) hg (Kd.R_away HO775.out (fun _ hk => hk.1.2)))
          have n1_ := sk_' (Kd.R_after (ok := (fun k_ => k_ ≠ gb723)) (by (with_reducible repeat (first | apply ra_' | apply rn_' | apply rd1_')); exact xi_' HO785.out (fun _ hk => ⟨hk.2, hk.1.2⟩)) hg hat)
          have n2_ := sk_' (hb)
          have n3_ := sk_' (ho)
          clear BK723
          clear HO785
          clear HB
          clear HO775
          have BK723 := n0_
          have HO785 := n1_
          have HB := n2_
          have HO782 := n3_
          clear n0_ n1_ n2_ n3_
          clear ho hb hg hat
          refine hK.out _ _ ⟨(kc_' BK723.out 0).trans rfl, (kc_' BK723.out 1).trans rfl⟩ (fun hHeld => ?_)
          clear hK K
          refine norm_ (a' := ?_) ?_ ?_
          rotate_left
          ·
           show Act.put _ (some 49) _ = _
           simp only [Act.put, sa_', sz_', sc_', i64_w, i32_w]
           rfl
          exact norm_ (by simp only [putAll, Act.put, sa_', sz_', sc_']) (hCont (v774, v781, v784) _ ⟨hHeld, (by (with_reducible repeat (first | apply ra_' | apply rn_' | apply rd1_')); exact HO782.out), (by (with_reducible repeat (first | apply ra_' | apply rn_' | apply rd1_')); exact xi_' HO785.out (fun _ hk => ⟨hk.2, hk.1⟩)), (by (with_reducible repeat (first | refine kn_' ?_ _ | refine kd_' ?_ | refine ka_' ?_ _)); exact BK723.out), (by repeat (first | (with_reducible first | exact HB.out | apply pa_' | apply pn_' | apply pd_' | refine pt_' ?_ GE723.out) | exact HB.out))⟩)
         skip
         refine Kd.R_lit_step k49 _ 49 ?hg (N := 51) ?hd (xs := ([(⟨a1_0, a1_1⟩ : S49)] : List (S49))) (inner := [.int .i64 a1_0, .int .i64 a1_1]) (ok := fun _ => True) (okp := fun _ => True) ?hr ?hp (fun _ hk => hk) trivial (Below.refl _ _) (Nat.le_refl _) (by simp) ?_; (case hd => rfl); (case hg => rfl); (case hr => first | (go_simp; done) | (go_simp; rfl)); (case hp => exact (Reps.c2 (show Kd.M k49 _ _ _ (⟨a1_0, a1_1⟩ : S49) [.int .i64 a1_0, .int .i64 a1_1] from (k49_mkM _ _ _ (⟨a1_0, a1_1⟩ : S49) )) (Reps.none _ _)))
         intro v784 w64 ho65 hb hg_ hnew_
         clear hg_ hnew_
         (first | rw [← Ny783.out] at ho65 | (simp only [Int.reduceToNat] at ho65; rw [← Ny783.out] at ho65))
         have n0_ := sk_' (Kd.R_lower (Kd.R_newB ho65 (g := gb723) (o := .cells #[.int .i64 a1_0, .int .i64 a1_1] 49 (0, 0)) (by (with_reducible repeat (first | refine kn_' ?_ _ | refine kd_' ?_ | refine ka_' ?_ _)); exact BK723.out)) (ps_' (by repeat (first | (with_reducible first | exact HB.out | apply pa_' | apply pn_' | apply pd_' | refine pt_' ?_ GE723.out) | exact HB.out))))
         have n1_ := sk_' (blk_below (g := gb723) (o := .cells #[.int .i64 a1_0, .int .i64 a1_1] 49 (0, 0)) (by (with_reducible repeat (first | refine kn_' ?_ _ | refine kd_' ?_ | refine ka_' ?_ _)); exact BK723.out) hb)
         have n2_ := sk_' (pp_' (by repeat (first | (with_reducible first | exact HB.out | apply pa_' | apply pn_' | apply pd_' | refine pt_' ?_ GE723.out) | exact HB.out)) hb)
         clear BK723
         clear HB
         have HO785 := n0_
         have BK723 := n1_
         have HB := n2_
         clear n0_ n1_ n2_
         clear hb ho65
         refine hK.out _ _ ⟨(kc_' BK723.out 0).trans rfl, (kc_' BK723.out 1).trans rfl⟩ (fun hHeld => ?_)
         clear hK K
         refine norm_ (a' := ?_) ?_ ?_
         rotate_left
         ·
          show Act.put _ (some 51) _ = _
          simp only [Act.put, sa_', sz_', sc_', i64_w, i32_w]
          rfl
         refine one_ (i := 0) (N := some 45) #[true, true, true, true, false, true, true, false, true, true, true, false, false] rfl rfl (one_of HT_.out (by kernel_rfl)) (by decide) (fun K hK => ?_)
         refine Kd.R_lit_step k49 _ 49 ?hg (N := 45) ?hd (xs := ([] : List (S49))) (inner := []) (ok := fun _ => True) (okp := fun _ => True) ?hr ?hp (fun _ hk => hk) trivial (Below.refl _ _) (Nat.le_refl _) (by simp) ?_; (case hd => rfl); (case hg => rfl); (case hr => first | (go_simp; done) | (go_simp; rfl)); (case hp => exact (Reps.none _ _))
         intro v774 w66 ho67 hb hg_ hnew_
         clear hg_ hnew_
         (first | rw [← Ny773.out] at ho67 | (simp only [Int.reduceToNat] at ho67; rw [← Ny773.out] at ho67))
         have n0_ := sk_' (Kd.R_elder' (by (with_reducible repeat (first | apply ra_' | apply rn_' | apply rd1_')); exact HO785.out) (Kd.R_base ho67) hb)
         have n1_ := sk_' (Kd.R_lower (Kd.R_newB (Kd.R_new' ho67 (Kd.R_lt (by (with_reducible repeat (first | apply ra_' | apply rn_' | apply rd1_')); exact HO785.out))) (g := gb723) (o := .cells #[.int .i64 a1_0, .int .i64 a1_1] 49 (0, 0)) (by (with_reducible repeat (first | refine kn_' ?_ _ | refine kd_' ?_ | refine ka_' ?_ _)); exact BK723.out)) (ps_' (by repeat (first | (with_reducible first | exact HB.out | apply pa_' | apply pn_' | apply pd_' | refine pt_' ?_ GE723.out) | exact HB.out))))
         have n2_ := sk_' (blk_below (g := gb723) (o := .cells #[.int .i64 a1_0, .int .i64 a1_1] 49 (0, 0)) (by (with_reducible repeat (first | refine kn_' ?_ _ | refine kd_' ?_ | refine ka_' ?_ _)); exact BK723.out) hb)
         have n3_ := sk_' (pp_' (by repeat (first | (with_reducible first | exact HB.out | apply pa_' | apply pn_' | apply pd_' | refine pt_' ?_ GE723.out) | exact HB.out)) hb)
         clear HO785
         clear BK723
         clear HB
         have HO785 := n0_
         have HO775 := n1_
         have BK723 := n2_
         have HB := n3_
         clear n0_ n1_ n2_ n3_
         clear hb ho67
         refine hK.out _ _ ⟨(kc_' BK723.out 0).trans rfl, (kc_' BK723.out 1).trans rfl⟩ (fun hHeld => ?_)
         clear hK K
         refine norm_ (a' := ?_) ?_ ?_
         rotate_left
         ·
          show Act.put _ (some 45) _ = _
          simp only [Act.put, sa_', sz_', sc_', i64_w, i32_w]
          rfl
         refine one_ (i := 4) (N := some 49) #[true, true, true, true, true, true, true, false, true, true, true, false, false] rfl rfl (one_of HT_.out (by kernel_rfl)) (by decide) (fun K hK => ?_)
         refine Kd.R_append_rows_step k49 (w0 := w) w.heap.size (by rfl) (.tmp 45) (.tmp 48) 44 49 (.agg #[(.int .i64 0), (.int .i64 0)]) 16 rfl Try.underlying44 info49 rfl (by decide) (by omega) v774 y773 y776 _ _ _ (fun k_ => some k_ ≠ (v784 : Value).ownBlock ∧ k_ ≠ gb723) (fun _ => False) rfl rfl ?aO ?aR (fun _ _ h => h) (fun _ h => h.elim) ?aF ?aB ?aS ?aL ?_
         (case aR => repeat (first | exact (Kd.C_below HR779.out HB.out) | (with_reducible refine xg_' ?_ _) | (with_reducible refine xe_' ?_ _) | (with_reducible refine xf_' ?_)))
         (case aB => exact (by repeat (first | (with_reducible first | exact HB.out | apply pa_' | apply pn_' | apply pd_' | refine pt_' ?_ GE723.out) | exact HB.out)))
         (case aF => exact (fun k_ hk => ⟨Kd.fresh' (Kd.R_lt (by (with_reducible repeat (first | apply ra_' | apply rn_' | apply rd1_')); exact HO785.out)) k_ hk, Kd.freshB (g := gb723) (o := .cells #[.int .i64 a1_0, .int .i64 a1_1] 49 (0, 0)) (by (with_reducible repeat (first | refine kn_' ?_ _ | refine kd_' ?_ | refine ka_' ?_ _)); exact BK723.out) k_ hk⟩))
         (case aO => exact (by (with_reducible repeat (first | apply ra_' | apply rn_' | apply rd1_')); exact xi_' HO775.out (fun _ hk => ⟨hk.1.2, hk.2⟩)))
         (case aS => exact (ps_' (by repeat (first | (with_reducible first | exact HB.out | apply pa_' | apply pn_' | apply pd_' | refine pt_' ?_ GE723.out) | exact HB.out))))
         (case aL => have := LMc55.out; omega)
         intro v781 w68 ho hb hg hat
         rw [← Ny780.out] at ho
         have n0_ := sk_' (blk_grown (g := gb723) (o := .cells #[.int .i64 a1_0, .int .i64 a1_1] 49 (0, 0)) (by (with_reducible repeat (first | refine kn_' ?_ _ | refine kd_' ?_ | refine ka_' ?_ _)); exact BK723.out) hg (Kd.R_away HO775.out (fun _ hk => hk.2)))
         have n1_ := sk_' (Kd.R_after (ok := (fun k_ => k_ ≠ gb723)) (by (with_reducible repeat (first | apply ra_' | apply rn_' | apply rd1_')); exact xi_' HO785.out (fun _ hk => ⟨hk.1.2, hk.2⟩)) hg hat)
         have n2_ := sk_' (hb)
         have n3_ := sk_' (ho)
         clear BK723
         clear HO785
         clear HB
         clear HO775
         have BK723 := n0_
         have HO785 := n1_
         have HB := n2_
         have HO782 := n3_
         clear n0_ n1_ n2_ n3_
         clear ho hb hg hat
         refine hK.out _ _ ⟨(kc_' BK723.out 0).trans rfl, (kc_' BK723.out 1).trans rfl⟩ (fun hHeld => ?_)
         clear hK K
         refine norm_ (a' := ?_) ?_ ?_
         rotate_left
         ·
          show Act.put _ (some 49) _ = _
          simp only [Act.put, sa_', sz_', sc_', i64_w, i32_w]
          rfl
         exact norm_ (by simp only [putAll, Act.put, sa_', sz_', sc_']) (hCont (v774, v781, v784) _ ⟨hHeld, (by (with_reducible repeat (first | apply ra_' | apply rn_' | apply rd1_')); exact HO782.out), (by (with_reducible repeat (first | apply ra_' | apply rn_' | apply rd1_')); exact xi_' HO785.out (fun _ hk => ⟨hk.2, hk.1⟩)), (by (with_reducible repeat (first | refine kn_' ?_ _ | refine kd_' ?_ | refine ka_' ?_ _)); exact BK723.out), (by repeat (first | (with_reducible first | exact HB.out | apply pa_' | apply pn_' | apply pd_' | refine pt_' ?_ GE723.out) | exact HB.out))⟩)
        rintro ⟨v774, v781, v784⟩ w69 ⟨hS_, h0_, h1_, h2_, h3_⟩
        have n0_ : Aside0 (Kd.R k49 49 w69 w.heap.size (fun k_ => some k_ ≠ (v784 : Value).ownBlock ∧ k_ ≠ gb723) v781 y780) := ⟨h0_⟩
        have n1_ : Aside0 (Kd.R k49 49 w69 w.heap.size (fun k_ => some k_ ≠ (v781 : Value).ownBlock ∧ k_ ≠ gb723) v784 y783) := ⟨h1_⟩
        have n2_ : Aside0 (w69.heap[gb723]? = some (.cells #[.int .i64 a1_0, .int .i64 a1_1] 49 (0, 0))) := ⟨h2_⟩
        have n3_ : Aside0 (Below w.heap.size w w69) := ⟨h3_⟩
        clear BK723
        clear HB
        clear h0_ h1_ h2_ h3_
        have HO782 := n0_
        have HO785 := n1_
        have BK723 := n2_
        have HB := n3_
        clear n0_ n1_ n2_ n3_
        have hHeld : w69.cell? ⟨gb723, 0, none⟩ = some (.int .i64 a1_0) ∧ w69.cell? ⟨gb723, 1, none⟩ = some (.int .i64 a1_1) := hS_
        obtain ⟨Ao71, co71, eo71⟩ := Kd.R_slice HO785.out
        (first | subst eo71 | (injection eo71 with f1_ f2_ f3_; have f4_ := f1_.symm; have f5_ := f3_.symm; clear f1_ f2_ f3_; subst f4_; subst f5_))
        refine norm_ (a' := ?_) ?_ ?_
        rotate_left
        ·
         simp only [putAll, Act.put, sa_', sz_', sc_']
         rfl
        refine one_ (i := 7) (N := some 52) #[true, true, true, true, true, true, true, true, true, true, true, false, false] rfl rfl (one_of HT_.out (by kernel_rfl)) (by decide) (fun K hK => ?_)
        refine Kd.R_append_rows_step k49 (w0 := w) w.heap.size (by rfl) (.tmp 49) (.tmp 51) 44 49 (.agg #[(.int .i64 0), (.int .i64 0)]) 16 rfl Try.underlying44 info49 rfl (by decide) (by omega) v781 y780 y783 _ _ _ (fun k_ => some k_ ≠ (.slice Ao71 y783.length co71 : Value).ownBlock ∧ k_ ≠ gb723) (fun _ => False) rfl rfl ?aO ?aR (fun _ _ h => h) (fun _ h => h.elim) ?aF ?aB ?aS ?aL ?_
        (case aR => repeat (first | exact (xr_' HO785.out).2.2 | (with_reducible refine xg_' ?_ _) | (with_reducible refine xe_' ?_ _) | (with_reducible refine xf_' ?_)))
        (case aB => exact (by repeat (first | (with_reducible first | exact HB.out | apply pa_' | apply pn_' | apply pd_' | refine pt_' ?_ GE723.out) | exact HB.out)))
        (case aF => exact (fun k_ hk => ⟨Kd.fresh' (Kd.R_lt (by (with_reducible repeat (first | apply ra_' | apply rn_' | apply rd1_')); exact HO785.out)) k_ hk, Kd.freshB (g := gb723) (o := .cells #[.int .i64 a1_0, .int .i64 a1_1] 49 (0, 0)) (by (with_reducible repeat (first | refine kn_' ?_ _ | refine kd_' ?_ | refine ka_' ?_ _)); exact BK723.out) k_ hk⟩))
        (case aO => exact (by (with_reducible repeat (first | apply ra_' | apply rn_' | apply rd1_')); exact HO782.out))
        (case aS => exact (ps_' (by repeat (first | (with_reducible first | exact HB.out | apply pa_' | apply pn_' | apply pd_' | refine pt_' ?_ GE723.out) | exact HB.out))))
        (case aL => have := LMc56.out; omega)
        intro v787 w70 ho hb hg hat
        rw [← Ny786.out] at ho
        have n0_ := sk_' (blk_grown (g := gb723) (o := .cells #[.int .i64 a1_0, .int .i64 a1_1] 49 (0, 0)) (by (with_reducible repeat (first | refine kn_' ?_ _ | refine kd_' ?_ | refine ka_' ?_ _)); exact BK723.out) hg (Kd.R_away HO782.out (fun _ hk => hk.2)))
        have n1_ := sk_' (Kd.R_after (ok := (fun k_ => k_ ≠ gb723)) (by (with_reducible repeat (first | apply ra_' | apply rn_' | apply rd1_')); exact xi_' HO785.out (fun _ hk => ⟨hk.2, hk.1⟩)) hg hat)
        have n2_ := sk_' (hb)
        have n3_ := sk_' (ho)
        clear BK723
        clear HO785
        clear HB
        clear HO782
        have BK723 := n0_
        have HO785 := n1_
        have HB := n2_
        have HO788 := n3_
        clear n0_ n1_ n2_ n3_
        clear ho hb hg hat
        refine hK.out _ _ ⟨(kc_' BK723.out 0).trans rfl, (kc_' BK723.out 1).trans rfl⟩ (fun hHeld => ?_)
        clear hK K
        refine norm_ (a' := ?_) ?_ ?_
        rotate_left
        ·
         show Act.put _ (some 52) _ = _
         simp only [Act.put, sa_', sz_', sc_', i64_w, i32_w]
         rfl
        refine one_ (i := 11) (N := some 56) #[true, true, true, true, true, true, true, true, true, true, true, true, false] rfl rfl (one_of HT_.out (by kernel_rfl)) (by decide) (fun K hK => ?_)
        refine Kd.R_append_rows_step k49 (w0 := w) w.heap.size (by rfl) (.tmp 52) (.tmp 55) 44 49 (.agg #[(.int .i64 0), (.int .i64 0)]) 16 rfl Try.underlying44 info49 rfl (by decide) (by omega) v787 y786 y789 _ _ _ (fun k_ => some k_ ≠ (.slice Ao71 y783.length co71 : Value).ownBlock ∧ k_ ≠ gb723) (fun _ => False) rfl rfl ?aO ?aR (fun _ _ h => h) (fun _ h => h.elim) ?aF ?aB ?aS ?aL ?_
        (case aR => repeat (first | exact (Kd.C_below HR792.out HB.out) | (with_reducible refine xg_' ?_ _) | (with_reducible refine xe_' ?_ _) | (with_reducible refine xf_' ?_)))
        (case aB => exact (by repeat (first | (with_reducible first | exact HB.out | apply pa_' | apply pn_' | apply pd_' | refine pt_' ?_ GE723.out) | exact HB.out)))
        (case aF => exact (fun k_ hk => ⟨Kd.fresh' (Kd.R_lt (by (with_reducible repeat (first | apply ra_' | apply rn_' | apply rd1_')); exact HO785.out)) k_ hk, Kd.freshB (g := gb723) (o := .cells #[.int .i64 a1_0, .int .i64 a1_1] 49 (0, 0)) (by (with_reducible repeat (first | refine kn_' ?_ _ | refine kd_' ?_ | refine ka_' ?_ _)); exact BK723.out) k_ hk⟩))
        (case aO => exact (by (with_reducible repeat (first | apply ra_' | apply rn_' | apply rd1_')); exact HO788.out))
        (case aS => exact (ps_' (by repeat (first | (with_reducible first | exact HB.out | apply pa_' | apply pn_' | apply pd_' | refine pt_' ?_ GE723.out) | exact HB.out))))
        (case aL => have := LMc59.out; omega)
        intro v794 w72 ho hb hg hat
        rw [← Ny793.out] at ho
        have n0_ := sk_' (blk_grown (g := gb723) (o := .cells #[.int .i64 a1_0, .int .i64 a1_1] 49 (0, 0)) (by (with_reducible repeat (first | refine kn_' ?_ _ | refine kd_' ?_ | refine ka_' ?_ _)); exact BK723.out) hg (Kd.R_away HO788.out (fun _ hk => hk.2)))
        have n1_ := sk_' (Kd.R_after (ok := (fun k_ => k_ ≠ gb723)) (by (with_reducible repeat (first | apply ra_' | apply rn_' | apply rd1_')); exact HO785.out) hg hat)
        have n2_ := sk_' (hb)
        have n3_ := sk_' (ho)
        clear BK723
        clear HO785
        clear HB
        clear HO788
        have BK723 := n0_
        have HO785 := n1_
        have HB := n2_
        have HO795 := n3_
        clear n0_ n1_ n2_ n3_
        clear ho hb hg hat
        refine hK.out _ _ ⟨(kc_' BK723.out 0).trans rfl, (kc_' BK723.out 1).trans rfl⟩ (fun hHeld => ?_)
        clear hK K
        refine norm_ (a' := ?_) ?_ ?_
        rotate_left
        ·
         show Act.put _ (some 56) _ = _
         simp only [Act.put, sa_', sz_', sc_', i64_w, i32_w]
         rfl
        refine pure_ (i := 12) (N := some 4) (v := ?_) (a' := ?_) #[true, true, true, true, true, true, true, true, true, true, true, true, true] rfl rfl (any_of HT_.out (by kernel_rfl)) (fun _ _ _ h => h) (Or.inl ⟨by rfl, ?_⟩) ?_ ?_
        rotate_left
        ·
         intro w'
         go_simp
         with_reducible rfl
        rotate_left
        ·
         simp only [Act.put, sa_', sz_', sc_', i64_w, i32_w]
         rfl
        refine done_ (done_of HT_.out (by kernel_rfl)) ?_
        try go_wp2
        go_ret
        exact ⟨_, by first | rfl | (simp [errW_none, errW_some] <;> rfl) | (simp [*, errW_none, errW_some] <;> rfl), by (with_reducible repeat (first | apply ra_' | apply rn_' | apply rd1_')); exact xi_' HO795.out (fun _ hk => trivial), by repeat (first | (with_reducible first | exact HB.out | apply pa_' | apply pn_' | apply pd_' | refine pt_' ?_ GE723.out) | exact HB.out)⟩
       rw [if_neg c59] at H
       exact absurd H (by simp)
      rw [if_neg c56] at H
      exact absurd H (by simp)
     rw [if_neg c55] at H
     exact absurd H (by simp)
    rw [if_neg c54] at H
    exact absurd H (by simp)
   rw [if_neg c53] at H
   exact absurd H (by simp)
end Go.Proofs.Ytbhlmeghbfmgiaa.F

namespace Go.Proofs.Ytbhlmeghbfmgiaa.F
open Go.RowKit Go.Proofs.YtbhlmeghbfmgiaaW.PrintWords Go.Proofs.YtbhlmeghbfmgiaaW.PrintLast Go.Proofs.YtbhlmeghbfmgiaaW.PrintMore
attribute [local go_sem] max2_int min2_int max_two min_two max_three min_three max_four min_four
set_option linter.unusedVariables false
set_option linter.unusedSimpArgs false
def spec_Mod.f (a0 : Int) (a1 : Int) : Option (Int) := (spec_l1In.f a1 1 1000000000000).bind fun t796 => (if t796 = true then (if a1 = 0 then (none) else (some (Int.tmod (wrap64 ((Int.tmod a0 a1) + a1)) a1))) else (some 0))
set_option maxHeartbeats 8000000 in
set_option maxRecDepth 100000 in
theorem spec_Mod.calls (a0 : Int) (a1 : Int) (r : Int) (w : World) (h : spec_Mod.f a0 a1 = some r) :
  Calls Try.prog 147 #[.int .i64 a0, .int .i64 a1] w fun e w' => e = .returned (.int .i64 r) ∧ Drawn0 w w' := by
 have H : ((spec_l1In.f a1 1 1000000000000).bind fun t796 => (if t796 = true then (if a1 = 0 then (none) else (some (Int.tmod (wrap64 ((Int.tmod a0 a1) + a1)) a1))) else (some 0))) = some r := h
 clear h
 replace H := bs_' H
 obtain ⟨t796, A30, H⟩ := H
 try dsimp only at H
 have A3 := sk_' A30
 clear A30
 by_cases c4 : t796 = true
 ·
  subst c4
  rw [if_pos rfl] at H
  by_cases c5 : a1 = 0
  ·
   rw [if_pos c5] at H
   exact absurd H (by simp)
  rw [if_neg c5] at H
  have c5b0 : (a1 == 0) = false := beq_eq_false_iff_ne.mpr c5
  have c5b1 : (a1 != 0) = true := bne_iff_ne.mpr c5
  obtain rfl := Option.some.inj H
  go_enter Try.func147, Try.ntmps147
  go_wp2_with (first | ((with_reducible refine xj_' (f := 110) rfl ?_); refine goesL_ (some 6) rfl rfl Try.func110 (by kernel_rfl) rfl #[.int .i64 a1, .int .i64 1, .int .i64 1000000000000] rfl (by (try simp only [xm_', xc_', xn_']); first | done | rfl | (simp only [xd_', xt_']; rfl)) ?_; (with_reducible refine (spec_l1In.calls a1 1 1000000000000 true _ A3.out).mono ?_); rintro e w' ⟨rfl, ⟨nd, rfl⟩⟩; refine ⟨_, rfl, ?_⟩))
  go_ret
  exact ⟨by first | rfl | (simp; done) | (simp [*]; done), by repeat (first | exact Drawn0.refl _ | apply Drawn0.step)⟩
 replace c4 := Bool.eq_false_iff.mpr c4
 subst c4
 rw [if_neg (show ¬ (false = true) by decide)] at H
 obtain rfl := Option.some.inj H
 go_enter Try.func147, Try.ntmps147
 go_wp2_with (first | ((with_reducible refine xj_' (f := 110) rfl ?_); refine goesL_ (some 6) rfl rfl Try.func110 (by kernel_rfl) rfl #[.int .i64 a1, .int .i64 1, .int .i64 1000000000000] rfl (by (try simp only [xm_', xc_', xn_']); first | done | rfl | (simp only [xd_', xt_']; rfl)) ?_; (with_reducible refine (spec_l1In.calls a1 1 1000000000000 false _ A3.out).mono ?_); rintro e w' ⟨rfl, ⟨nd, rfl⟩⟩; refine ⟨_, rfl, ?_⟩))
 go_ret
 exact ⟨by first | rfl | (simp; done) | (simp [*]; done), by repeat (first | exact Drawn0.refl _ | apply Drawn0.step)⟩
end Go.Proofs.Ytbhlmeghbfmgiaa.F

namespace Go.Proofs.Ytbhlmeghbfmgiaa.F
open Go.RowKit Go.Proofs.YtbhlmeghbfmgiaaW.PrintWords Go.Proofs.YtbhlmeghbfmgiaaW.PrintLast Go.Proofs.YtbhlmeghbfmgiaaW.PrintMore
attribute [local go_sem] max2_int min2_int max_two min_two max_three min_three max_four min_four
set_option linter.unusedVariables false
set_option linter.unusedSimpArgs false
def spec_FloorRatio.f (k : Nat) (a0_0 : Int) (a0_1 : Int) : Option (Int) := (spec_IsRatio.f k a0_0 a0_1).bind fun t798 => (if t798 = true then ((spec_Mod.f a0_0 a0_1).bind fun t799 => (if a0_1 = 0 then (none) else (some (wrap64 (Int.tdiv (wrap64 (a0_0 - t799)) a0_1))))) else (some 0))
set_option maxHeartbeats 8000000 in
set_option maxRecDepth 100000 in
theorem spec_FloorRatio.calls (k : Nat) (a0_0 : Int) (a0_1 : Int) (r : Int) (w : World) (h : spec_FloorRatio.f k a0_0 a0_1 = some r) :
  Calls Try.prog 100 #[.agg #[.int .i64 a0_0, .int .i64 a0_1]] w fun e w' => e = .returned (.int .i64 r) ∧ Below w.heap.size w w' := by
 have F := sk_' (Fr.of (Below.refl w.heap.size w))
 have H := h
 clear h
 unfold spec_FloorRatio.f at H
 replace H := bs_' H
 obtain ⟨t1, B_, H⟩ := H
 have A1 := sk_' B_
 clear B_
 have HA := sk_' H
 clear H
 go_enter Try.func100, Try.ntmps100
 go_upto_region 1 with (first
  | ((with_reducible refine gate_dst (N := 1) rfl ?_); refine box_event ?hg (N := 1) ?hd (cs := #[.int .i64 a0_0, .int .i64 a0_1]) (t := 95) ?hr ?_; (case hd => rfl); (case hg => rfl); (case hr => first | (go_simp; done) | (go_simp; rfl)); intro ga hg w1 hbox hb; have F1 := sk_' (F.out.push hg hbox hb); clear F hbox hb hg; have F := F1; clear F1; obtain ⟨gac0, gac1, gaf0, gaf1⟩ := F.out.c2 (i := 0) rfl))
 have H := HA.out
 clear HA
 cases t1 with
 | false =>
  simp only [Bool.false_eq_true, if_false] at H
  obtain rfl := Option.some.inj H
  go_wp2_with (first
   | (go_at_call 146; (with_reducible refine (spec_IsRatio.calls k a0_0 a0_1 false _ A1.out).mono ?_); rintro e w2 ⟨rfl, hb⟩; have F1 := sk_' (F.out.step hb); clear gac0 gac1 gaf0 gaf1; clear F hb; have F := F1; clear F1))
  go_ret
  exact ⟨rfl, F.out.below⟩
 | true =>
  simp only [if_true] at H
  replace H := bs_' H
  obtain ⟨t2, B_, H⟩ := H
  have A2 := sk_' B_
  clear B_
  by_cases z1 : a0_1 = 0
  ·
   rw [if_pos z1] at H
   exact absurd H (by simp)
  rw [if_neg z1] at H
  have z1a : (a0_1 == 0) = false := beq_eq_false_iff_ne.mpr z1
  have z1b : (a0_1 != 0) = true := bne_iff_ne.mpr z1
  replace z1 := eq_false z1
  obtain rfl := Option.some.inj H
  go_wp2_with (first
   | (go_at_call 146; (with_reducible refine (spec_IsRatio.calls k a0_0 a0_1 true _ A1.out).mono ?_); rintro e w2 ⟨rfl, hb⟩; have F1 := sk_' (F.out.step hb); clear gac0 gac1 gaf0 gaf1; clear F hb; have F := F1; clear F1))
  obtain ⟨gac0, gac1, gaf0, gaf1⟩ := F.out.c2 (i := 0) rfl
  go_quiet ((first | (go_at_call 147; apply Calls.quiet_of; ((with_reducible refine (spec_Mod.calls a0_0 a0_1 t2 _ A2.out).mono ?_); exact fun _ _ h_ => ⟨h_.1, h_.2.out⟩))))
  have F1 := sk_' (F.out.step (pn_' (Below.refl _ w2) nq))
  clear gac0 gac1 gaf0 gaf1
  clear F
  generalize w2.drewN nq = w3 at F1 ⊢
  have F := F1
  clear F1
  go_wp2
  go_ret
  exact ⟨by first | rfl | (simp; done) | (simp [*]; done), F.out.below⟩
end Go.Proofs.Ytbhlmeghbfmgiaa.F

namespace Go.Proofs.Ytbhlmeghbfmgiaa.F
open Go.RowKit Go.Proofs.YtbhlmeghbfmgiaaW.PrintWords Go.Proofs.YtbhlmeghbfmgiaaW.PrintLast Go.Proofs.YtbhlmeghbfmgiaaW.PrintMore
attribute [local go_sem] max2_int min2_int max_two min_two max_three min_three max_four min_four
set_option linter.unusedVariables false
set_option linter.unusedSimpArgs false
mutual
def spec_PlayScore.l0 : Nat → List (S26) → List (S151) → List (S49) → Int → Option ((List (S49)) × Bool)
 | 0, _, _, _, _ => none
 | k + 1, x0, x1, x6, x7 => if x7 < (x0.length : Int) then ((spec_IsScore.f k x0).bind fun t803 => (spec_PlayScore.j1 k x0 x1 x6 x7 t803)) else (spec_PlayScore.j1 k x0 x1 x6 x7 false)
def spec_PlayScore.j1 : Nat → List (S26) → List (S151) → List (S49) → Int → Bool → Option ((List (S49)) × Bool)
 | 0, _, _, _, _, _ => none
 | k + 1, x0, x1, x6, x7, x18 => if x18 = true then (if 0 ≤ x7 then (if x7 < (x0.length : Int) then ((spec_TimeOf.f k x1 ((rd_T26 x0 x7).f0)).bind fun bt806 => (if bt806.2.2 = true then ((spec_FloorRatio.f k bt806.1 bt806.2.1).bind fun t810 => ((spec_l14Put.f k x6 t810 ((rd_T26 x0 x7).f2)).bind fun t812 => (spec_PlayScore.l0 k x0 x1 t812 (wrap64 (x7 + 1))))) else (some ((([] : List (S49))), false)))) else (none)) else (none)) else ((spec_IsScore.f k x0).bind fun t804 => (some (x6, t804)))
end
def spec_PlayScore.f (k : Nat) (l0 : List (S26)) (l1 : List (S151)) : Option ((List (S49)) × Bool) := spec_PlayScore.l0 k l0 l1 (([] : List (S49))) 0
def spec_PlayScore.T8 : Bool × List (List Nat × List Nat) := (true, [([], []), ([], []), ([1], [1]), ([], []), ([], []), ([3, 4], [3, 4]), ([5], [5]), ([6], [6]), ([2, 7], [2, 7]), ([0, 8, 2], [0, 8]), ([9, 9, 0, 1, 2, 3, 4, 5, 6, 7, 8, 9], [0, 9])])
def spec_PlayScore.B8 : List Nat := [0, 0, 2, 0, 0, 24, 56, 120, 254, 511, 1023]
theorem spec_PlayScore.tab8 : rtab .any (opsOf Try.f24 8) = spec_PlayScore.T8 := by kernel_rfl
theorem spec_PlayScore.bits8 : waitsOk spec_PlayScore.T8.2 spec_PlayScore.B8 = true := by kernel_rfl
set_option maxHeartbeats 8000000 in
set_option maxRecDepth 100000 in
theorem spec_PlayScore.calls (k : Nat) (A0 : Option Addr) (c0 : Nat) (l0 : List (S26)) (A1 : Option Addr) (c1 : Nat) (l1 : List (S151)) (r1 : List (S49)) (r2 : Bool) (w : World) (hr0 : Kd.C k26 w A0 l0.length l0) (hc0 : l0.length ≤ c0) (hr1 : Kd.C k151 w A1 l1.length l1) (hc1 : l1.length ≤ c1) (h : spec_PlayScore.f k l0 l1 = some (r1, r2)) :
  Calls Try.prog 24 #[.slice A0 l0.length c0, .slice A1 l1.length c1] w fun e w' => ∃ v0_ : Value, e = .returned (.tuple #[v0_, .bool r2]) ∧ Kd.R k49 49 w' w.heap.size (fun _ => True) v0_ r1 ∧ Below w.heap.size w w' := by
 have hu95 := Try.underlying95
 have hu49 := Try.underlying49
 have HR0 := sk_' hr0
 have HC0 := sk_' hc0
 clear hr0 hc0
 have HR1 := sk_' hr1
 have HC1 := sk_' hc1
 clear hr1 hc1
 have HB := sk_' (Below.refl w.heap.size w)
 have H : (spec_PlayScore.l0 k l0 l1 (([] : List (S49))) 0) = some (r1, r2) := h
 clear h
 obtain ⟨y800, hy800⟩ : ∃ y_ : List (S49), y_ = (([] : List (S49))) := ⟨_, rfl⟩
 replace H : (spec_PlayScore.l0 k l0 l1 y800 0) = some (r1, r2) := by first | (rw [hy800]; with_reducible exact H) | (have H2_ := (Option.bind_some _ _).symm.trans H; rw [hy800]; with_reducible exact H2_) | (have H2_ := (Option.bind_some _ _).symm.trans H; with_reducible exact H2_) | with_reducible exact H | (rw [hy800]; exact H) | exact H
 have Ny800 := sk_' hy800
 clear hy800
 have H' := sk_' H
 clear H
 go_enter Try.func24, Try.ntmps24
 go_wp2_with (first | ((with_reducible refine gate_dst (N := 10) rfl ?_); refine Kd.R_lit k49 _ 49 ?hg (N := 10) ?hd (xs := ([] : List (S49))) (inner := []) (ok := fun _ => True) (okp := fun _ => True) ?hr ?hp (fun _ hk => hk) trivial (Below.refl _ _) (Nat.le_refl _) (by simp) ?_; (case hd => rfl); (case hg => rfl); (case hr => first | (go_simp; done) | (go_simp; rfl)); (case hp => exact (Reps.none _ _)); intro v801 w3 ho4 hb hg_ hnew_; clear hg_ hnew_; (first | rw [← Ny800.out] at ho4 | (simp only [Int.reduceToNat] at ho4; rw [← Ny800.out] at ho4)); have n0_ := sk_' (Kd.R_lower ho4 (ps_' (by repeat (first | (with_reducible first | exact HB.out | apply pa_' | apply pn_' | apply pd_') | exact HB.out)))); have n1_ := sk_' (pp_' (by repeat (first | (with_reducible first | exact HB.out | apply pa_' | apply pn_' | apply pd_') | exact HB.out)) hb); clear HB; have HO802 := n0_; have HB := n1_; clear n0_ n1_; clear hb ho4))
 go_loopg [6, 7] k (fun kq v6 v7 w' => ∃ (x6_1 : List (S49)) (x7_1 : Int), v7 = .int .i64 x7_1 ∧ Aside0 (spec_PlayScore.l0 kq l0 l1 x6_1 x7_1 = some (r1, r2)) ∧ Aside0 (kq ≤ k) ∧ Aside0 (Kd.R k49 49 w' w.heap.size (fun _ => True) v6 x6_1) ∧ Aside0 (Below w.heap.size w w'))
 case atStart => exact ⟨(y800), (0), (by first | rfl | (simp; done) | (simp [*]; done)), H', ⟨Nat.le_refl _⟩, ⟨by (with_reducible repeat (first | apply ra_' | apply rn_' | apply rd1_')); exact HO802.out⟩, ⟨by repeat (first | (with_reducible first | exact HB.out | apply pa_' | apply pn_' | apply pd_') | exact HB.out)⟩⟩
 case round =>
  clear H'
  try clear c1
  try clear c2
  try clear p2
  obtain ⟨x6_1, x7_1, rfl, HA, HK1, HO_6, HB⟩ := hrel
  cases gk with
  | zero => exact absurd HA.out (by simp [spec_PlayScore.l0])
  | succ k1 =>
   have H := HA.out
   clear HA
   simp only [spec_PlayScore.l0] at H
   have HC5 := sk_' H
   clear H
   go_upto_region 3 with (fail)
   go_cut [18] (fun v18 wc => ∃ (kq : Nat) (x18_4 : Bool), v18 = .bool x18_4 ∧ Aside0 (spec_PlayScore.j1 kq l0 l1 x6_1 x7_1 x18_4 = some (r1, r2)) ∧ Aside0 (kq ≤ k1) ∧ Aside0 (Kd.R k49 49 wc w.heap.size (fun _ => True) u6 x6_1) ∧ Aside0 (Below w.heap.size w wc))
   case first =>
    have H := HC5.out
    clear HC5
    by_cases c6 : x7_1 < (l0.length : Int)
    ·
     rw [if_pos c6] at H
     have c6b0 : decide (x7_1 < (l0.length : Int)) = true := decide_eq_true c6
     clear c6
     (first | rw [c6b0] | (simp only [i64_w, i32_w]; rw [c6b0]) | skip)
     replace H := bs_' H
     obtain ⟨t803, A70, H⟩ := H
     try dsimp only at H
     have A7 := sk_' A70
     clear A70
     have H' := sk_' H
     clear H
     go_wp2_with (first | (go_at_call 97; (with_reducible refine (spec_IsScore.calls k1 _ _ l0 t803 _ ?side1 ?side2 A7.out).mono ?_); (case side1 => repeat (first | exact (Kd.C_below HR0.out HB.out) | (with_reducible refine xg_' ?_ _) | (with_reducible refine xe_' ?_ _) | (with_reducible refine xf_' ?_))); (case side2 => exact HC0.out); rintro e w8 ⟨rfl, hb⟩; have n0_ := sk_' (xb_' (by (with_reducible repeat (first | apply ra_' | apply rn_' | apply rd1_')); exact HO_6.out) hb); have n1_ := sk_' (pp_' (by repeat (first | (with_reducible first | exact HB.out | apply pa_' | apply pn_' | apply pd_') | exact HB.out)) hb); clear HO_6; clear HB; have HO_6 := n0_; have HB := n1_; clear n0_ n1_; (try clear hb); (try clear hb2); (try clear hk); (try clear hi)))
     go_meet
     case rel => exact ⟨_, (t803), (by first | rfl | (simp; done) | (simp [*]; done)), H', ⟨by have := HK1.out; first | omega | exact Nat.le_refl _⟩, ⟨by (with_reducible repeat (first | apply ra_' | apply rn_' | apply rd1_')); exact HO_6.out⟩, ⟨by repeat (first | (with_reducible first | exact HB.out | apply pa_' | apply pn_' | apply pd_') | exact HB.out)⟩⟩
    rw [if_neg c6] at H
    have c6b0 : decide (x7_1 < (l0.length : Int)) = false := decide_eq_false c6
    clear c6
    (first | rw [c6b0] | (simp only [i64_w, i32_w]; rw [c6b0]) | skip)
    have H' := sk_' H
    clear H
    go_wp2
    go_meet
    case rel => exact ⟨_, (false), (by first | rfl | (simp; done) | (simp [*]; done)), H', ⟨by have := HK1.out; first | omega | exact Nat.le_refl _⟩, ⟨by (with_reducible repeat (first | apply ra_' | apply rn_' | apply rd1_')); exact HO_6.out⟩, ⟨by repeat (first | (with_reducible first | exact HB.out | apply pa_' | apply pn_' | apply pd_') | exact HB.out)⟩⟩
   case rest =>
    clear HC5
    try clear c1
    try clear c2
    try clear p2
    try clear c6
    try clear c6b0
    try clear p2
    obtain ⟨kq, x18_4, rfl, HA, HJ4, HO_6, HB⟩ := hcut
    cases kq with
    | zero => exact absurd HA.out (by simp [spec_PlayScore.j1])
    | succ kj4 =>
     have H := HA.out
     clear HA
     simp only [spec_PlayScore.j1] at H
     by_cases c9 : x18_4 = true
     ·
      subst c9
      rw [if_pos rfl] at H
      by_cases c10 : 0 ≤ x7_1
      ·
       rw [if_pos c10] at H
       have c10b0 : decide (0 ≤ x7_1) = true := decide_eq_true c10
       clear c10
       by_cases c11 : x7_1 < (l0.length : Int)
       ·
        rw [if_pos c11] at H
        have c11b0 : decide (x7_1 < (l0.length : Int)) = true := decide_eq_true c11
        clear c11
        replace H := bs_' H
        obtain ⟨⟨t806, t807, t808⟩, A120, H⟩ := H
        try dsimp only at H
        have A12 := sk_' A120
        clear A120
        by_cases c13 : t808 = true
        ·
         subst c13
         rw [if_pos rfl] at H
         replace H := bs_' H
         obtain ⟨t810, A140, H⟩ := H
         try dsimp only at H
         have A14 := sk_' A140
         clear A140
         replace H := bs_' H
         obtain ⟨t812, A150, H⟩ := H
         try dsimp only at H
         have A15 := sk_' A150
         clear A150
         have H' := sk_' H
         clear H
         have p805 : 0 ≤ (x7_1 : Int) := od_' (by first | (with_reducible assumption) | assumption)
         have q805 : x7_1 < (l0.length : Int) := od_' (by first | (with_reducible assumption) | assumption)
         obtain ⟨ad805, e805, hx805_0, hx805_1, hx805_2, hx805_3⟩ := at_T26 HR0.out x7_1 p805 q805
         cases e805
         replace hx805_0 := (HB.out.cell (bq_' w _ hx805_0)).trans hx805_0
         replace hx805_1 := (HB.out.cell (bq_' w _ hx805_1)).trans hx805_1
         replace hx805_2 := (HB.out.cell (bq_' w _ hx805_2)).trans hx805_2
         replace hx805_3 := (HB.out.cell (bq_' w _ hx805_3)).trans hx805_3
         replace p805 := eq_true p805
         replace q805 := eq_true q805
         try go_wp2_with (first | ((with_reducible refine xj_' (f := 98) rfl ?_); refine goesL_ (some 28) rfl rfl Try.func98 (by kernel_rfl) rfl #[.slice A1 l1.length c1, .int .i64 ((rd_T26 l0 x7_1).f0)] rfl (by (try simp only [xm_', xc_', xn_']); first | done | rfl | (simp only [xd_', xt_']; rfl)) ?_; (with_reducible refine (spec_TimeOf.calls kj4 _ _ l1 ((rd_T26 l0 x7_1).f0) t806 t807 true _ ?side1 ?side2 A12.out).mono ?_); (case side1 => repeat (first | exact (Kd.C_below HR1.out HB.out) | (with_reducible refine xg_' ?_ _) | (with_reducible refine xe_' ?_ _) | (with_reducible refine xf_' ?_))); (case side2 => exact HC1.out); rintro e w16 ⟨rfl, hb⟩; refine ⟨_, rfl, ?_⟩; have n0_ := sk_' (xb_' (by (with_reducible repeat (first | apply ra_' | apply rn_' | apply rd1_')); exact HO_6.out) hb); have n1_ := sk_' (pp_' (by repeat (first | (with_reducible first | exact HB.out | apply pa_' | apply pn_' | apply pd_') | exact HB.out)) hb); clear HO_6; clear HB; have HO_6 := n0_; have HB := n1_; clear n0_ n1_; (try clear hb); (try clear hb2); (try clear hk); (try clear hi)) | ((with_reducible refine gate_dst (N := 8) rfl ?_); refine box_event ?hg (N := 8) ?hd (cs := #[.int .i64 0, .int .i64 0]) (t := 95) ?hr ?_; (case hd => rfl); (case hg => rfl); (case hr => first | (go_simp; done) | (go_simp; rfl)); intro gb809 hg w17 hbox hb; have n0_ := sk_' (xb_' (by (with_reducible repeat (first | apply ra_' | apply rn_' | apply rd1_')); exact HO_6.out) hb); have n1_ := sk_' (pp_' (by repeat (first | (with_reducible first | exact HB.out | apply pa_' | apply pn_' | apply pd_') | exact HB.out)) hb); have n2_ := sk_' (hbox); have n3_ := sk_' ((by rw [hg]; exact (ps_' (by repeat (first | (with_reducible first | exact HB.out | apply pa_' | apply pn_' | apply pd_') | exact HB.out))) : w.heap.size ≤ gb809)); have n4_ := sk_' ((by rw [hg]; exact (ps_' (by repeat (first | (with_reducible first | exact HB.out | apply pa_' | apply pn_' | apply pd_') | exact HB.out))) : w.heap.size ≤ gb809)); clear HO_6; clear HB; have HO_6 := n0_; have HB := n1_; have BK809 := n2_; have GW809 := n3_; have GE809 := n4_; clear n0_ n1_ n2_ n3_ n4_; clear hb hbox hg; have hcz18_0 : w17.cell? ⟨gb809, 0, none⟩ = some (.int .i64 0) := (kc_' BK809.out 0).trans rfl; have hcz18_1 : w17.cell? ⟨gb809, 1, none⟩ = some (.int .i64 0) := (kc_' BK809.out 1).trans rfl; have hfz18_0 := kf_' BK809.out 0; have hfz18_1 := kf_' BK809.out 1))
         have n0_ : Aside0 (Kd.R k49 49 ((w17.setCell ⟨gb809, 0, none⟩ (.int .i64 t806)).setCell ⟨gb809, 1, none⟩ (.int .i64 t807)) w.heap.size (fun _ => True) u6 x6_1) := ⟨by (with_reducible repeat (first | apply ra_' | apply rn_' | apply rd1_')); exact xi_' (Kd.R_far (p := ⟨gb809, 1, none⟩) (Kd.R_far (p := ⟨gb809, 0, none⟩) (Kd.R_types HO_6.out BK809.out (by decide)) (fun _ hk => hk.2) (.int .i64 t806)) (fun _ hk => hk.2) (.int .i64 t807)) (fun _ hk => trivial)⟩
         have n1_ : Aside0 (((w17.setCell ⟨gb809, 0, none⟩ (.int .i64 t806)).setCell ⟨gb809, 1, none⟩ (.int .i64 t807)).heap[gb809]? = some (.cells #[.int .i64 t806, .int .i64 t807] 95 (0, 0))) := ⟨by (with_reducible repeat (first | refine kn_' ?_ _ | refine kd_' ?_ | refine ka_' ?_ _)); refine blk_put (cs := #[.int .i64 t806, .int .i64 0]) ?_ 1 _ rfl; (with_reducible repeat (first | refine kn_' ?_ _ | refine kd_' ?_ | refine ka_' ?_ _)); refine blk_put (cs := #[.int .i64 0, .int .i64 0]) ?_ 0 _ rfl; (with_reducible repeat (first | refine kn_' ?_ _ | refine kd_' ?_ | refine ka_' ?_ _)); exact BK809.out⟩
         have n2_ : Aside0 (Below w.heap.size w ((w17.setCell ⟨gb809, 0, none⟩ (.int .i64 t806)).setCell ⟨gb809, 1, none⟩ (.int .i64 t807))) := ⟨by repeat (first | (with_reducible first | exact HB.out | apply pa_' | apply pn_' | apply pd_' | refine pt_' ?_ GE809.out) | exact HB.out)⟩
         (try clear HO_6)
         (try clear BK809)
         (try clear HB)
         generalize ((w17.setCell ⟨gb809, 0, none⟩ (.int .i64 t806)).setCell ⟨gb809, 1, none⟩ (.int .i64 t807)) = w19 at n0_ n1_ n2_ ⊢
         have HO_6 := n0_
         have BK809 := n1_
         have HB := n2_
         clear n0_ n1_ n2_
         have n0_ := sk_' (rd1_' HO_6.out)
         have n1_ := sk_' (kd_' BK809.out)
         have n2_ := sk_' (pd_' HB.out)
         clear HO_6
         clear BK809
         clear HB
         have HO_6 := n0_
         have BK809 := n1_
         have HB := n2_
         clear n0_ n1_ n2_
         have p811 : 0 ≤ (x7_1 : Int) := od_' (by first | (with_reducible assumption) | assumption)
         have q811 : x7_1 < (l0.length : Int) := od_' (by first | (with_reducible assumption) | assumption)
         obtain ⟨ad811, e811, hx811_0, hx811_1, hx811_2, hx811_3⟩ := at_T26 HR0.out x7_1 p811 q811
         have hw811_3 := hx811_3
         have hw811_2 := hx811_2
         have hw811_1 := hx811_1
         have hw811_0 := hx811_0
         obtain rfl : ad805 = ad811 := (by injection e811)
         replace hx811_0 := (HB.out.cell (bq_' w _ hx811_0)).trans hx811_0
         replace hx811_1 := (HB.out.cell (bq_' w _ hx811_1)).trans hx811_1
         replace hx811_2 := (HB.out.cell (bq_' w _ hx811_2)).trans hx811_2
         replace hx811_3 := (HB.out.cell (bq_' w _ hx811_3)).trans hx811_3
         replace p811 := eq_true p811
         replace q811 := eq_true q811
         refine start_ (n := 11) (S := fun w' => w'.cell? ⟨gb809, 0, none⟩ = some (.int .i64 t806) ∧ w'.cell? ⟨gb809, 1, none⟩ = some (.int .i64 t807) ∧ w'.cell? (ad805.add ((x7_1).toNat * 4)) = some (.int .i64 ((rd_T26 l0 x7_1).f0)) ∧ w'.cell? ⟨(ad805.add ((x7_1).toNat * 4)).block, (ad805.add ((x7_1).toNat * 4)).off + 1, none⟩ = some (.int .i64 ((rd_T26 l0 x7_1).f1)) ∧ w'.cell? ⟨(ad805.add ((x7_1).toNat * 4)).block, (ad805.add ((x7_1).toNat * 4)).off + 2, none⟩ = some (.int .i64 ((rd_T26 l0 x7_1).f2)) ∧ w'.cell? ⟨(ad805.add ((x7_1).toNat * 4)).block, (ad805.add ((x7_1).toNat * 4)).off + 3, none⟩ = some (.int .i64 ((rd_T26 l0 x7_1).f3))) (ds := []) #[false, false, false, false, false, false, false, false, false, false, false] (by kernel_rfl) rfl rfl ⟨(kc_' BK809.out 0).trans rfl, (kc_' BK809.out 1).trans rfl, ((HB.out.cell (bq_' w _ hw811_0)).trans hw811_0), ((HB.out.cell (bq_' w _ hw811_1)).trans hw811_1), ((HB.out.cell (bq_' w _ hw811_2)).trans hw811_2), ((HB.out.cell (bq_' w _ hw811_3)).trans hw811_3)⟩ (fun hHeld => ?_); refine with_tabW spec_PlayScore.tab8 spec_PlayScore.bits8 (fun HT_ HW_ => ?_)
         generalize w19.drew = w20 at HO_6 BK809 HB hx811_0 hx811_1 hx811_2 hx811_3 hHeld ⊢
         refine pure_ (i := 0) (N := some 34) (v := ?_) (a' := ?_) #[true, false, false, false, false, false, false, false, false, false, false] rfl rfl (any_of HT_.out (by kernel_rfl)) (fun _ _ _ h => h) (Or.inl ⟨by rfl, ?_⟩) ?_ ?_
         rotate_left
         ·
          intro w'
          go_simp
          with_reducible rfl
         rotate_left
         ·
          simp only [Act.put, sa_', sz_', sc_', i64_w, i32_w]
          rfl
         refine pure_ (i := 3) (N := some 37) (v := ?_) (a' := ?_) #[true, false, false, true, false, false, false, false, false, false, false] rfl rfl (any_of HT_.out (by kernel_rfl)) (fun _ _ _ h => h) (Or.inl ⟨by rfl, ?_⟩) ?_ ?_
         rotate_left
         ·
          intro w'
          go_simp
          with_reducible rfl
         rotate_left
         ·
          simp only [Act.put, sa_', sz_', sc_', i64_w, i32_w]
          rfl
         refine pure_ (i := 4) (N := some 38) (v := ?_) (a' := ?_) #[true, false, false, true, true, false, false, false, false, false, false] rfl rfl (any_of HT_.out (by kernel_rfl)) (fun _ _ _ h => h) (Or.inl ⟨by rfl, ?_⟩) ?_ ?_
         rotate_left
         ·
          intro w'
          go_simp
          with_reducible rfl
         rotate_left
         ·
          simp only [Act.put, sa_', sz_', sc_', i64_w, i32_w]
          rfl
         refine pure_ (i := 5) (N := some 39) (v := ?_) (a' := ?_) #[true, false, false, true, true, true, false, false, false, false, false] rfl rfl (any_of HT_.out (by kernel_rfl)) (fun _ _ _ h => h) (Or.inl ⟨by rfl, ?_⟩) ?_ ?_
         rotate_left
         ·
          intro w'
          go_simp
          with_reducible rfl
         rotate_left
         ·
          simp only [Act.put, sa_', sz_', sc_', i64_w, i32_w]
          rfl
         refine pure_ (i := 6) (N := some 40) (v := ?_) (a' := ?_) #[true, false, false, true, true, true, true, false, false, false, false] rfl rfl (any_of HT_.out (by kernel_rfl)) (fun _ _ _ h => h) (Or.inl ⟨by rfl, ?_⟩) ?_ ?_
         rotate_left
         ·
          intro w'
          go_simp
          with_reducible rfl
         rotate_left
         ·
          simp only [Act.put, sa_', sz_', sc_', i64_w, i32_w]
          rfl
         refine take_ (i := 1) (N := some 35) (v := ?_) (a' := ?_) #[true, true, false, true, true, true, true, false, false, false, false] rfl rfl (take_ofW HT_.out HW_.out (by kernel_rfl)) (fun _ _ _ h => h) (Or.inl ⟨by rfl, ?_⟩) hHeld ?_ ?_
         rotate_left
         ·
          rintro w' ⟨s0, s1, s2, s3, s4, s5⟩
          go_simp
          with_reducible rfl
         rotate_left
         ·
          simp only [Act.put, sa_', sz_', sc_', i64_w, i32_w]
          rfl
         refine take_ (i := 7) (N := some 41) (v := ?_) (a' := ?_) #[true, true, false, true, true, true, true, true, false, false, false] rfl rfl (take_ofW HT_.out HW_.out (by kernel_rfl)) (fun _ _ _ h => h) (Or.inl ⟨by rfl, ?_⟩) hHeld ?_ ?_
         rotate_left
         ·
          rintro w' ⟨s0, s1, s2, s3, s4, s5⟩
          go_simp
          with_reducible rfl
         rotate_left
         ·
          simp only [Act.put, sa_', sz_', sc_', i64_w, i32_w]
          rfl
         refine one_ (i := 2) (N := some 36) #[true, true, true, true, true, true, true, true, false, false, false] rfl rfl (one_of HT_.out (by kernel_rfl)) (by decide) (fun K hK => ?_)
         refine goes_ Try.func100 (by kernel_rfl) rfl #[.agg #[.int .i64 t806, .int .i64 t807]] (by rfl) rfl rfl (by (try simp only [xm_', xc_', xn_']); first | done | rfl | (simp only [xd_', xt_']; rfl)) ?_
         with_reducible refine (spec_FloorRatio.calls kj4 t806 t807 t810 _ A14.out).mono ?_
         rintro e w21 ⟨rfl, hb⟩
         refine ⟨_, rfl, ?_⟩
         have n0_ := sk_' (xb_' (by (with_reducible repeat (first | apply ra_' | apply rn_' | apply rd1_')); exact HO_6.out) hb)
         have n1_ := sk_' (blk_below (g := gb809) (o := .cells #[.int .i64 t806, .int .i64 t807] 95 (0, 0)) (by (with_reducible repeat (first | refine kn_' ?_ _ | refine kd_' ?_ | refine ka_' ?_ _)); exact BK809.out) hb)
         have n2_ := sk_' (pp_' (by repeat (first | (with_reducible first | exact HB.out | apply pa_' | apply pn_' | apply pd_' | refine pt_' ?_ GE809.out) | exact HB.out)) hb)
         clear HO_6
         clear BK809
         clear HB
         have HO_6 := n0_
         have BK809 := n1_
         have HB := n2_
         clear n0_ n1_ n2_
         (try clear hb)
         (try clear hb2)
         (try clear hk)
         (try clear hi)
         obtain ⟨Ao22, co22, eo22⟩ := Kd.R_slice HO_6.out
         (first | subst eo22 | (injection eo22 with f1_ f2_ f3_; have f4_ := f1_.symm; have f5_ := f3_.symm; clear f1_ f2_ f3_; subst f4_; subst f5_))
         refine hK.out _ _ ⟨(kc_' BK809.out 0).trans rfl, (kc_' BK809.out 1).trans rfl, ((HB.out.cell (bq_' w _ hw811_0)).trans hw811_0), ((HB.out.cell (bq_' w _ hw811_1)).trans hw811_1), ((HB.out.cell (bq_' w _ hw811_2)).trans hw811_2), ((HB.out.cell (bq_' w _ hw811_3)).trans hw811_3)⟩ (fun hHeld => ?_)
         clear hK K
         refine norm_ (a' := ?_) ?_ ?_
         rotate_left
         ·
          show Act.put _ (some 36) _ = _
          simp only [Act.put, sa_', sz_', sc_', i64_w, i32_w]
          rfl
         refine pure_ (i := 8) (N := some 42) (v := ?_) (a' := ?_) #[true, true, true, true, true, true, true, true, true, false, false] rfl rfl (any_of HT_.out (by kernel_rfl)) (fun _ _ _ h => h) (Or.inl ⟨by rfl, ?_⟩) ?_ ?_
         rotate_left
         ·
          intro w'
          go_simp
          with_reducible rfl
         rotate_left
         ·
          simp only [Act.put, sa_', sz_', sc_', i64_w, i32_w]
          rfl
         refine one_ (i := 9) (N := some 43) #[true, true, true, true, true, true, true, true, true, true, false] rfl rfl (one_of HT_.out (by kernel_rfl)) (by decide) (fun K hK => ?_)
         refine goes_ Try.func99 (by kernel_rfl) rfl #[.slice Ao22 x6_1.length co22, .agg #[.int .i64 t810, .int .i64 ((rd_T26 l0 x7_1).f2)]] (by rfl) rfl rfl (by (try simp only [xm_', xc_', xn_']); first | done | rfl | (simp only [xd_', xt_']; rfl)) ?_
         with_reducible refine (spec_l14Put.calls kj4 _ _ x6_1 t810 ((rd_T26 l0 x7_1).f2) t812 _ ?side1 ?side2 A15.out).mono ?_
         (case side1 => repeat (first | exact (xr_' HO_6.out).2.2 | (with_reducible refine xg_' ?_ _) | (with_reducible refine xe_' ?_ _) | (with_reducible refine xf_' ?_)))
         (case side2 => exact (xr_' HO_6.out).2.1)
         rintro e w23 ⟨v813, rfl, ho0, hb⟩
         refine ⟨_, rfl, ?_⟩
         have n0_ := sk_' (Kd.R_elder' (by (with_reducible repeat (first | apply ra_' | apply rn_' | apply rd1_')); exact HO_6.out) (Kd.R_base ho0) hb)
         have n1_ := sk_' (Kd.R_lower (Kd.R_new' ho0 (Kd.R_lt (by (with_reducible repeat (first | apply ra_' | apply rn_' | apply rd1_')); exact HO_6.out))) (ps_' (by repeat (first | (with_reducible first | exact HB.out | apply pa_' | apply pn_' | apply pd_' | refine pt_' ?_ GE809.out) | exact HB.out))))
         have n2_ := sk_' (blk_below (g := gb809) (o := .cells #[.int .i64 t806, .int .i64 t807] 95 (0, 0)) (by (with_reducible repeat (first | refine kn_' ?_ _ | refine kd_' ?_ | refine ka_' ?_ _)); exact BK809.out) hb)
         have n3_ := sk_' (pp_' (by repeat (first | (with_reducible first | exact HB.out | apply pa_' | apply pn_' | apply pd_' | refine pt_' ?_ GE809.out) | exact HB.out)) hb)
         clear HO_6
         clear BK809
         clear HB
         have HO_6 := n0_
         have HO814 := n1_
         have BK809 := n2_
         have HB := n3_
         clear n0_ n1_ n2_ n3_
         (try clear hb)
         (try clear hb2)
         (try clear hk)
         (try clear hi)
         (try clear ho0)
         refine hK.out _ _ ⟨(kc_' BK809.out 0).trans rfl, (kc_' BK809.out 1).trans rfl, ((HB.out.cell (bq_' w _ hw811_0)).trans hw811_0), ((HB.out.cell (bq_' w _ hw811_1)).trans hw811_1), ((HB.out.cell (bq_' w _ hw811_2)).trans hw811_2), ((HB.out.cell (bq_' w _ hw811_3)).trans hw811_3)⟩ (fun hHeld => ?_)
         clear hK K
         refine norm_ (a' := ?_) ?_ ?_
         rotate_left
         ·
          show Act.put _ (some 43) _ = _
          simp only [Act.put, sa_', sz_', sc_', i64_w, i32_w]
          rfl
         refine pure_ (i := 10) (N := some 6) (v := ?_) (a' := ?_) #[true, true, true, true, true, true, true, true, true, true, true] rfl rfl (any_of HT_.out (by kernel_rfl)) (fun _ _ _ h => h) (Or.inl ⟨by rfl, ?_⟩) ?_ ?_
         rotate_left
         ·
          intro w'
          go_simp
          with_reducible rfl
         rotate_left
         ·
          simp only [Act.put, sa_', sz_', sc_', i64_w, i32_w]
          rfl
         refine done_ (done_of HT_.out (by kernel_rfl)) ?_
         try go_wp2
         go_roundg kj4
         case measure => have := HK1.out; have := HJ4.out; omega
         case rel => exact ⟨(t812), (wrap64 (x7_1 + 1)), (by first | rfl | (simp; done) | (simp [*]; done)), H', ⟨by have := HK1.out; have := HJ4.out; omega⟩, ⟨by (with_reducible repeat (first | apply ra_' | apply rn_' | apply rd1_')); exact xi_' HO814.out (fun _ hk => trivial)⟩, ⟨by repeat (first | (with_reducible first | exact HB.out | apply pa_' | apply pn_' | apply pd_' | refine pt_' ?_ GE809.out) | exact HB.out)⟩⟩
        replace c13 := Bool.eq_false_iff.mpr c13
        subst c13
        rw [if_neg (show ¬ (false = true) by decide)] at H
        obtain ⟨y815, hy815⟩ : ∃ y_ : List (S49), y_ = (([] : List (S49))) := ⟨_, rfl⟩
        replace H : (some (y815, false)) = some (r1, r2) := by first | (rw [hy815]; with_reducible exact H) | (have H2_ := (Option.bind_some _ _).symm.trans H; rw [hy815]; with_reducible exact H2_) | (have H2_ := (Option.bind_some _ _).symm.trans H; with_reducible exact H2_) | with_reducible exact H | (rw [hy815]; exact H) | exact H
        have Ny815 := sk_' hy815
        clear hy815
        simp only [Option.some.injEq, Prod.mk.injEq] at H
        obtain ⟨rfl, rfl⟩ := H
        have p805 : 0 ≤ (x7_1 : Int) := od_' (by first | (with_reducible assumption) | assumption)
        have q805 : x7_1 < (l0.length : Int) := od_' (by first | (with_reducible assumption) | assumption)
        obtain ⟨ad805, e805, hx805_0, hx805_1, hx805_2, hx805_3⟩ := at_T26 HR0.out x7_1 p805 q805
        cases e805
        replace hx805_0 := (HB.out.cell (bq_' w _ hx805_0)).trans hx805_0
        replace hx805_1 := (HB.out.cell (bq_' w _ hx805_1)).trans hx805_1
        replace hx805_2 := (HB.out.cell (bq_' w _ hx805_2)).trans hx805_2
        replace hx805_3 := (HB.out.cell (bq_' w _ hx805_3)).trans hx805_3
        replace p805 := eq_true p805
        replace q805 := eq_true q805
        go_wp2_with (first | ((with_reducible refine xj_' (f := 98) rfl ?_); refine goesL_ (some 28) rfl rfl Try.func98 (by kernel_rfl) rfl #[.slice A1 l1.length c1, .int .i64 ((rd_T26 l0 x7_1).f0)] rfl (by (try simp only [xm_', xc_', xn_']); first | done | rfl | (simp only [xd_', xt_']; rfl)) ?_; (with_reducible refine (spec_TimeOf.calls kj4 _ _ l1 ((rd_T26 l0 x7_1).f0) t806 t807 false _ ?side1 ?side2 A12.out).mono ?_); (case side1 => repeat (first | exact (Kd.C_below HR1.out HB.out) | (with_reducible refine xg_' ?_ _) | (with_reducible refine xe_' ?_ _) | (with_reducible refine xf_' ?_))); (case side2 => exact HC1.out); rintro e w24 ⟨rfl, hb⟩; refine ⟨_, rfl, ?_⟩; have n0_ := sk_' (xb_' (by (with_reducible repeat (first | apply ra_' | apply rn_' | apply rd1_')); exact HO_6.out) hb); have n1_ := sk_' (pp_' (by repeat (first | (with_reducible first | exact HB.out | apply pa_' | apply pn_' | apply pd_') | exact HB.out)) hb); clear HO_6; clear HB; have HO_6 := n0_; have HB := n1_; clear n0_ n1_; (try clear hb); (try clear hb2); (try clear hk); (try clear hi)) | ((with_reducible refine gate_dst (N := 8) rfl ?_); refine box_event ?hg (N := 8) ?hd (cs := #[.int .i64 0, .int .i64 0]) (t := 95) ?hr ?_; (case hd => rfl); (case hg => rfl); (case hr => first | (go_simp; done) | (go_simp; rfl)); intro gb809 hg w25 hbox hb; have n0_ := sk_' (xb_' (by (with_reducible repeat (first | apply ra_' | apply rn_' | apply rd1_')); exact HO_6.out) hb); have n1_ := sk_' (pp_' (by repeat (first | (with_reducible first | exact HB.out | apply pa_' | apply pn_' | apply pd_') | exact HB.out)) hb); have n2_ := sk_' (hbox); have n3_ := sk_' ((by rw [hg]; exact (ps_' (by repeat (first | (with_reducible first | exact HB.out | apply pa_' | apply pn_' | apply pd_') | exact HB.out))) : w.heap.size ≤ gb809)); have n4_ := sk_' ((by rw [hg]; exact (ps_' (by repeat (first | (with_reducible first | exact HB.out | apply pa_' | apply pn_' | apply pd_') | exact HB.out))) : w.heap.size ≤ gb809)); clear HO_6; clear HB; have HO_6 := n0_; have HB := n1_; have BK809 := n2_; have GW809 := n3_; have GE809 := n4_; clear n0_ n1_ n2_ n3_ n4_; clear hb hbox hg; have hcz26_0 : w25.cell? ⟨gb809, 0, none⟩ = some (.int .i64 0) := (kc_' BK809.out 0).trans rfl; have hcz26_1 : w25.cell? ⟨gb809, 1, none⟩ = some (.int .i64 0) := (kc_' BK809.out 1).trans rfl; have hfz26_0 := kf_' BK809.out 0; have hfz26_1 := kf_' BK809.out 1) | ((with_reducible refine gate_dst (N := 33) rfl ?_); refine Kd.R_lit k49 _ 49 ?hg (N := 33) ?hd (xs := ([] : List (S49))) (inner := []) (ok := fun _ => True) (okp := fun _ => True) ?hr ?hp (fun _ hk => hk) trivial (Below.refl _ _) (Nat.le_refl _) (by simp) ?_; (case hd => rfl); (case hg => rfl); (case hr => first | (go_simp; done) | (go_simp; rfl)); (case hp => exact (Reps.none _ _)); intro v816 w27 ho28 hb hg_ hnew_; clear hg_ hnew_; (first | rw [← Ny815.out] at ho28 | (simp only [Int.reduceToNat] at ho28; rw [← Ny815.out] at ho28)); have n0_ := sk_' (Kd.R_elder' (by (with_reducible repeat (first | apply ra_' | apply rn_' | apply rd1_')); exact (xi_' (Kd.R_far (p := ⟨gb809, 1, none⟩) (Kd.R_far (p := ⟨gb809, 0, none⟩) (Kd.R_types HO_6.out BK809.out (by decide)) (fun _ hk => hk.2) (.int .i64 t806)) (fun _ hk => hk.2) (.int .i64 t807)) (fun _ h_ => h_.1))) (Kd.R_base ho28) hb); have n1_ := sk_' (Kd.R_lower (Kd.R_new' ho28 (Kd.R_lt (by (with_reducible repeat (first | apply ra_' | apply rn_' | apply rd1_')); exact (xi_' (Kd.R_far (p := ⟨gb809, 1, none⟩) (Kd.R_far (p := ⟨gb809, 0, none⟩) (Kd.R_types HO_6.out BK809.out (by decide)) (fun _ hk => hk.2) (.int .i64 t806)) (fun _ hk => hk.2) (.int .i64 t807)) (fun _ h_ => h_.1))))) (ps_' (by repeat (first | (with_reducible first | exact HB.out | apply pa_' | apply pn_' | apply pd_' | refine pt_' ?_ GE809.out) | exact HB.out)))); have n2_ := sk_' (blk_below (g := gb809) (o := .cells #[.int .i64 t806, .int .i64 t807] 95 (0, 0)) (by (with_reducible repeat (first | refine kn_' ?_ _ | refine kd_' ?_ | refine ka_' ?_ _)); refine blk_put (cs := #[.int .i64 t806, .int .i64 0]) ?_ 1 _ rfl; (with_reducible repeat (first | refine kn_' ?_ _ | refine kd_' ?_ | refine ka_' ?_ _)); refine blk_put (cs := #[.int .i64 0, .int .i64 0]) ?_ 0 _ rfl; (with_reducible repeat (first | refine kn_' ?_ _ | refine kd_' ?_ | refine ka_' ?_ _)); exact BK809.out) hb); have n3_ := sk_' (pp_' (by repeat (first | (with_reducible first | exact HB.out | apply pa_' | apply pn_' | apply pd_' | refine pt_' ?_ GE809.out) | exact HB.out)) hb); clear HO_6; clear BK809; clear HB; have HO_6 := n0_; have HO817 := n1_; have BK809 := n2_; have HB := n3_; clear n0_ n1_ n2_ n3_; clear hb ho28))
        go_ret2
        exact ⟨_, by first | rfl | (simp [errW_none, errW_some] <;> rfl) | (simp [*, errW_none, errW_some] <;> rfl), by (with_reducible repeat (first | apply ra_' | apply rn_' | apply rd1_')); exact xi_' HO817.out (fun _ hk => trivial), by repeat (first | (with_reducible first | exact HB.out | apply pa_' | apply pn_' | apply pd_' | refine pt_' ?_ GE809.out) | exact HB.out)⟩
       rw [if_neg c11] at H
       exact absurd H (by simp)
      rw [if_neg c10] at H
      exact absurd H (by simp)
     replace c9 := Bool.eq_false_iff.mpr c9
     subst c9
     rw [if_neg (show ¬ (false = true) by decide)] at H
     replace H := bs_' H
     obtain ⟨t804, A290, H⟩ := H
     try dsimp only at H
     have A29 := sk_' A290
     clear A290
     simp only [Option.some.injEq, Prod.mk.injEq] at H
     obtain ⟨rfl, rfl⟩ := H
     go_wp2_with (first | ((with_reducible refine xj_' (f := 97) rfl ?_); refine goesL_ (some 46) rfl rfl Try.func97 (by kernel_rfl) rfl #[.slice A0 l0.length c0] rfl (by (try simp only [xm_', xc_', xn_']); first | done | rfl | (simp only [xd_', xt_']; rfl)) ?_; (with_reducible refine (spec_IsScore.calls kj4 _ _ l0 t804 _ ?side1 ?side2 A29.out).mono ?_); (case side1 => repeat (first | exact (Kd.C_below HR0.out HB.out) | (with_reducible refine xg_' ?_ _) | (with_reducible refine xe_' ?_ _) | (with_reducible refine xf_' ?_))); (case side2 => exact HC0.out); rintro e w30 ⟨rfl, hb⟩; refine ⟨_, rfl, ?_⟩; have n0_ := sk_' (xb_' (by (with_reducible repeat (first | apply ra_' | apply rn_' | apply rd1_')); exact HO_6.out) hb); have n1_ := sk_' (pp_' (by repeat (first | (with_reducible first | exact HB.out | apply pa_' | apply pn_' | apply pd_') | exact HB.out)) hb); clear HO_6; clear HB; have HO_6 := n0_; have HB := n1_; clear n0_ n1_; (try clear hb); (try clear hb2); (try clear hk); (try clear hi)))
     go_ret2
     exact ⟨_, by first | rfl | (simp [errW_none, errW_some] <;> rfl) | (simp [*, errW_none, errW_some] <;> rfl), by (with_reducible repeat (first | apply ra_' | apply rn_' | apply rd1_')); exact HO_6.out, by repeat (first | (with_reducible first | exact HB.out | apply pa_' | apply pn_' | apply pd_') | exact HB.out)⟩
end Go.Proofs.Ytbhlmeghbfmgiaa.F

namespace Go.Proofs.Ytbhlmeghbfmgiaa.F
open Go.RowKit Go.Proofs.YtbhlmeghbfmgiaaW.PrintWords Go.Proofs.YtbhlmeghbfmgiaaW.PrintLast Go.Proofs.YtbhlmeghbfmgiaaW.PrintMore
attribute [local go_sem] max2_int min2_int max_two min_two max_three min_three max_four min_four
set_option linter.unusedVariables false
set_option linter.unusedSimpArgs false
def impl_IsPerformance.l0 : Nat → List (S49) → List (S49) → Int → Int → Option (Bool)
 | 0, _, _, _, _ => none
 | k + 1, x0, x5, x6, x7 => if x7 < x6 then (if 0 ≤ x7 then (if x7 < (x5.length : Int) then ((impl_InRange.f ((rd_T49 x5 x7).f0) 0 10000000).bind fun t820 => (if t820 = true then ((impl_InRange.f ((rd_T49 x5 x7).f1) 0 127).bind fun t821 => (if t821 = true then (if x7 > 0 then (if 0 ≤ (wrap64 (x7 - 1)) then (if (wrap64 (x7 - 1)) < (x0.length : Int) then (if ((rd_T49 x0 (wrap64 (x7 - 1))).f0) > ((rd_T49 x5 x7).f0) then (some false) else (if ((rd_T49 x0 (wrap64 (x7 - 1))).f0) = ((rd_T49 x5 x7).f0) then (if ((rd_T49 x0 (wrap64 (x7 - 1))).f1) > ((rd_T49 x5 x7).f1) then (some false) else (impl_IsPerformance.l0 k x0 x5 x6 (wrap64 (x7 + 1)))) else (impl_IsPerformance.l0 k x0 x5 x6 (wrap64 (x7 + 1))))) else (none)) else (none)) else (impl_IsPerformance.l0 k x0 x5 x6 (wrap64 (x7 + 1)))) else (some false))) else (some false))) else (none)) else (none)) else (some (decide ((x0.length : Int) ≤ 60)))
def impl_IsPerformance.f (k : Nat) (l0 : List (S49)) : Option (Bool) := impl_IsPerformance.l0 k l0 l0 (l0.length : Int) 0
def impl_IsPerformance.T4 : Bool × List (List Nat × List Nat) := (true, [([], []), ([0], [0]), ([1], [1]), ([2], [2]), ([3, 2], [3]), ([4], [4]), ([5, 4], [4, 5]), ([6, 4, 4], [4, 6]), ([7, 4], [4, 7]), ([4, 8], [4, 8]), ([9, 7], [9]), ([10], [10]), ([11, 10], [10, 11]), ([12, 10, 10], [10, 12]), ([13], [13]), ([13], [13]), ([15, 13], [13, 15]), ([14, 16, 13], [13, 14, 16]), ([17, 13], [13, 17]), ([18, 13], [13, 18]), ([13], [13]), ([20, 13], [13, 20]), ([19, 21, 13], [13, 19, 21]), ([22, 13, 13], [13, 22]), ([23], [23]), ([23], [23]), ([25, 23], [23, 25]), ([24, 26, 23], [23, 24, 26]), ([27, 23], [23, 27]), ([28, 23], [23, 28]), ([23], [23]), ([30, 23], [23, 30]), ([29, 31, 23], [23, 29, 31]), ([32, 23, 23], [23, 32]), ([33], [33]), ([33], [33]), ([35, 33], [33, 35]), ([34, 36, 33], [33, 34, 36]), ([37, 33], [33, 37]), ([38, 33], [33, 38]), ([33], [33]), ([40, 33], [33, 40]), ([39, 41, 33], [33, 39, 41]), ([33, 42, 23], [23, 33, 42]), ([23, 43, 13], [13, 23, 43]), ([13, 44, 10], [10, 13, 44]), ([10, 45], [10, 45])])
def impl_IsPerformance.B4 : List Nat := [0, 1, 3, 7, 15, 31, 63, 127, 255, 511, 1023, 2047, 4095, 8191, 16383, 16383, 49151, 131071, 262143, 524287, 16383, 1064959, 4194303, 8388607, 16777215, 16777215, 50331647, 134217727, 268435455, 536870911, 16777215, 1090519039, 4294967295, 8589934591, 17179869183, 17179869183, 51539607551, 137438953471, 274877906943, 549755813887, 17179869183, 1116691496959, 4398046511103, 8796093022207, 17592186044415, 35184372088831, 70368744177663]
theorem impl_IsPerformance.tab4 : rtab .any (opsOf Try.f25 4) = impl_IsPerformance.T4 := by kernel_rfl
theorem impl_IsPerformance.bits4 : waitsOk impl_IsPerformance.T4.2 impl_IsPerformance.B4 = true := by kernel_rfl
set_option maxHeartbeats 8000000 in
set_option maxRecDepth 100000 in
theorem impl_IsPerformance.calls (k : Nat) (A0 : Option Addr) (c0 : Nat) (l0 : List (S49)) (r : Bool) (w : World) (hr0 : Kd.C k49 w A0 l0.length l0) (hc0 : l0.length ≤ c0) (h : impl_IsPerformance.f k l0 = some r) :
  Calls Try.prog 25 #[.slice A0 l0.length c0] w fun e w' => e = .returned (.bool r) ∧ Below w.heap.size w w' := by
 have HR0 := sk_' hr0
 have HC0 := sk_' hc0
 clear hr0 hc0
 have F := sk_' (Fr.of (Below.refl w.heap.size w))
 have H := h
 clear h
 unfold impl_IsPerformance.f at H
 have HA := sk_' H
 clear H
 go_enter Try.func25, Try.ntmps25
 go_wp2
 go_loopg [7] k (fun kq vx w' => ∃ (x : Int), vx = .int .i64 x ∧ Aside0 (impl_IsPerformance.l0 kq l0 l0 (l0.length : Int) x = some r) ∧ Aside0 (Fr w w' []))
 case atStart => exact ⟨0, (by first | rfl | (simp; done) | (simp [*]; done)), HA, F⟩
 case round =>
  clear HA F
  obtain ⟨x, rfl, HA, F⟩ := hrel
  cases gk with
  | zero => exact absurd HA.out (by simp [impl_IsPerformance.l0])
  | succ k2 =>
   have H := HA.out
   clear HA
   simp only [impl_IsPerformance.l0] at H
   by_cases c1 : x < (l0.length : Int)
   ·
    rw [if_pos c1] at H
    by_cases c2 : 0 ≤ x
    ·
     rw [if_pos c2, if_pos c1] at H
     obtain ⟨ad, e, hx0, hx1⟩ := at_T49 HR0.out x c2 c1
     cases e
     replace hx0 := (F.out.below.cell (bq_' w _ hx0)).trans hx0
     replace hx1 := (F.out.below.cell (bq_' w _ hx1)).trans hx1
     generalize (rd_T49 l0 x).f0 = p at H hx0
     generalize (rd_T49 l0 x).f1 = q at H hx1
     have cb1 : decide (x < (l0.length : Int)) = true := decide_eq_true c1
     have c1t := eq_true c1
     have c2t := eq_true c2
     have HA := sk_' H
     clear H
     go_upto_region 4 with (first
      | ((with_reducible refine gate_dst (N := 4) rfl ?_); refine box_event ?hg (N := 4) ?hd (cs := #[.int .i64 0, .int .i64 0]) (t := 49) ?hr ?_; (case hd => rfl); (case hg => rfl); (case hr => first | (go_simp; done) | (go_simp; rfl)); intro gt hg w3 hbox hb; have F1 := sk_' (F.out.push hg hbox hb); clear F hbox hb hg; have F := F1; clear F1; obtain ⟨gtc0, gtc1, gtf0, gtf1⟩ := F.out.c2 (i := 0) rfl; clear hx0 hx1)
      | ((with_reducible refine gate_store (t := 49) (p := 4) rfl ?_); refine store_event (t := 49) (p := 4) (v := ?vo_w4) (w1 := put2 w3 gt (.int .i64 p) (.int .i64 q)) ?hg ?ho ?hn ?hr ?_; (case ho => rfl); (case hg => rfl); (case hn => rfl); (case hr => unfold put2; first | (go_simp; done) | (go_simp; rfl)); intro w4 hw; have F1 := sk_' (F.out.put2 (i := 0) rfl (.int .i64 p) (.int .i64 q)); rw [← hw] at F1; clear gtc0 gtc1 gtf0 gtf1; clear F hw; have F := F1; clear F1))
     have H := HA.out
     clear HA c1t
     replace H := bs_' H
     obtain ⟨t2, B_, H⟩ := H
     have A2 := sk_' B_
     clear B_
     cases t2 with
     | false =>
      simp only [Bool.false_eq_true, if_false] at H
      obtain ⟨gtc0, gtc1, gtf0, gtf1⟩ := F.out.c2 (i := 0) rfl
      go_quiet ((first | (go_at_call 86; apply Calls.quiet_of; ((with_reducible refine (impl_InRange.calls p 0 10000000 false _ A2.out).mono ?_); exact fun _ _ h_ => ⟨h_.1, h_.2.out⟩))))
      have F1 := sk_' (F.out.step (pn_' (Below.refl _ w4) nq))
      clear gtc0 gtc1 gtf0 gtf1
      clear F
      generalize w4.drewN nq = w5 at F1 ⊢
      have F := F1
      clear F1
      obtain rfl := Option.some.inj H
      go_wp2
      go_ret
      exact ⟨rfl, F.out.below⟩
     | true =>
      simp only [if_true] at H
      replace H := bs_' H
      obtain ⟨t3, B_, H⟩ := H
      have A3 := sk_' B_
      clear B_
      cases t3 with
      | false =>
       simp only [Bool.false_eq_true, if_false] at H
       obtain ⟨gtc0, gtc1, gtf0, gtf1⟩ := F.out.c2 (i := 0) rfl
       go_quiet ((first | (go_at_call 86; apply Calls.quiet_of; ((with_reducible refine (impl_InRange.calls p 0 10000000 true _ A2.out).mono ?_); exact fun _ _ h_ => ⟨h_.1, h_.2.out⟩)) | (go_at_call 86; apply Calls.quiet_of; ((with_reducible refine (impl_InRange.calls q 0 127 false _ A3.out).mono ?_); exact fun _ _ h_ => ⟨h_.1, h_.2.out⟩))))
       have F1 := sk_' (F.out.step (pn_' (Below.refl _ w4) nq))
       clear gtc0 gtc1 gtf0 gtf1
       clear F
       generalize w4.drewN nq = w5 at F1 ⊢
       have F := F1
       clear F1
       obtain rfl := Option.some.inj H
       go_wp2
       go_ret
       exact ⟨rfl, F.out.below⟩
      | true =>
       simp only [if_true] at H
       by_cases d3 : x > 0
       ·
        rw [if_pos d3] at H
        have d3b : decide (0 < x) = true := decide_eq_true d3
        clear d3
        obtain ⟨ji, hji⟩ : ∃ j_ : Int, wrap64 (x - 1) = j_ := ⟨_, rfl⟩
        have hjw : IntKind.i64.wrap (x - 1) = ji := (i64_w _).trans hji
        rw [hji] at H
        by_cases e1 : 0 ≤ ji
        ·
         rw [if_pos e1] at H
         by_cases e2 : ji < (l0.length : Int)
         ·
          rw [if_pos e2] at H
          obtain ⟨ad2, e, hy0, hy1⟩ := at_T49 HR0.out ji e1 e2
          obtain rfl : ad = ad2 := by injection e
          clear e hji
          have Y0 := sk_' hy0
          have Y1 := sk_' hy1
          clear hy0 hy1
          generalize (rd_T49 l0 ji).f0 = p2 at H Y0
          generalize (rd_T49 l0 ji).f1 = q2 at H Y1
          replace e1 := eq_true e1
          replace e2 := eq_true e2
          by_cases d4 : p2 > p
          ·
           rw [if_pos d4] at H
           have d4b : decide (p < p2) = true := decide_eq_true d4
           clear d4
           have hy0 := (F.out.below.cell (bq_' w _ Y0.out)).trans Y0.out
           have hy1 := (F.out.below.cell (bq_' w _ Y1.out)).trans Y1.out
           obtain ⟨gtc0, gtc1, gtf0, gtf1⟩ := F.out.c2 (i := 0) rfl
           go_quiet ((first | (go_at_call 86; apply Calls.quiet_of; ((with_reducible refine (impl_InRange.calls p 0 10000000 true _ A2.out).mono ?_); exact fun _ _ h_ => ⟨h_.1, h_.2.out⟩)) | (go_at_call 86; apply Calls.quiet_of; ((with_reducible refine (impl_InRange.calls q 0 127 true _ A3.out).mono ?_); exact fun _ _ h_ => ⟨h_.1, h_.2.out⟩))))
           have F1 := sk_' (F.out.step (pn_' (Below.refl _ w4) nq))
           clear hy0 hy1
           clear gtc0 gtc1 gtf0 gtf1
           clear F
           generalize w4.drewN nq = w5 at F1 ⊢
           have F := F1
           clear F1
           obtain rfl := Option.some.inj H
           go_wp2
           go_ret
           exact ⟨rfl, F.out.below⟩
          rw [if_neg d4] at H
          have d4b : decide (p < p2) = false := decide_eq_false d4
          clear d4
          by_cases d5 : p2 = p
          ·
           rw [if_pos d5] at H
           have d5a : (p2 == p) = true := beq_iff_eq.mpr d5
           have d5b : (p2 != p) = false := bne_eq_false_iff_eq.mpr d5
           clear d5
           by_cases d6 : q2 > q
           ·
            rw [if_pos d6] at H
            have d6b : decide (q < q2) = true := decide_eq_true d6
            clear d6
            have hy0 := (F.out.below.cell (bq_' w _ Y0.out)).trans Y0.out
            have hy1 := (F.out.below.cell (bq_' w _ Y1.out)).trans Y1.out
            obtain ⟨gtc0, gtc1, gtf0, gtf1⟩ := F.out.c2 (i := 0) rfl
            go_quiet ((first | (go_at_call 86; apply Calls.quiet_of; ((with_reducible refine (impl_InRange.calls p 0 10000000 true _ A2.out).mono ?_); exact fun _ _ h_ => ⟨h_.1, h_.2.out⟩)) | (go_at_call 86; apply Calls.quiet_of; ((with_reducible refine (impl_InRange.calls q 0 127 true _ A3.out).mono ?_); exact fun _ _ h_ => ⟨h_.1, h_.2.out⟩))))
            have F1 := sk_' (F.out.step (pn_' (Below.refl _ w4) nq))
            clear hy0 hy1
            clear gtc0 gtc1 gtf0 gtf1
            clear F
            generalize w4.drewN nq = w5 at F1 ⊢
            have F := F1
            clear F1
            obtain rfl := Option.some.inj H
            go_wp2
            go_ret
            exact ⟨rfl, F.out.below⟩
           rw [if_neg d6] at H
           have d6b : decide (q < q2) = false := decide_eq_false d6
           clear d6
           have hy0 := (F.out.below.cell (bq_' w _ Y0.out)).trans Y0.out
           have hy1 := (F.out.below.cell (bq_' w _ Y1.out)).trans Y1.out
           obtain ⟨gtc0, gtc1, gtf0, gtf1⟩ := F.out.c2 (i := 0) rfl
           go_quiet ((first | (go_at_call 86; apply Calls.quiet_of; ((with_reducible refine (impl_InRange.calls p 0 10000000 true _ A2.out).mono ?_); exact fun _ _ h_ => ⟨h_.1, h_.2.out⟩)) | (go_at_call 86; apply Calls.quiet_of; ((with_reducible refine (impl_InRange.calls q 0 127 true _ A3.out).mono ?_); exact fun _ _ h_ => ⟨h_.1, h_.2.out⟩))))
           have F1 := sk_' (F.out.step (pn_' (Below.refl _ w4) nq))
           clear hy0 hy1
           clear gtc0 gtc1 gtf0 gtf1
           clear F
           generalize w4.drewN nq = w5 at F1 ⊢
           have F := F1
           clear F1
           have HA := sk_' H
           clear H
           go_wp2
           go_roundg k2
           case measure => omega
           case rel => exact ⟨wrap64 (x + 1), (by first | rfl | (simp; done) | (simp [*]; done)), HA, ⟨F.out.take 0⟩⟩
          rw [if_neg d5] at H
          have d5a : (p2 == p) = false := beq_eq_false_iff_ne.mpr d5
          have d5b : (p2 != p) = true := bne_iff_ne.mpr d5
          clear d5
          have hy0 := (F.out.below.cell (bq_' w _ Y0.out)).trans Y0.out
          have hy1 := (F.out.below.cell (bq_' w _ Y1.out)).trans Y1.out
          obtain ⟨gtc0, gtc1, gtf0, gtf1⟩ := F.out.c2 (i := 0) rfl
          go_quiet ((first | (go_at_call 86; apply Calls.quiet_of; ((with_reducible refine (impl_InRange.calls p 0 10000000 true _ A2.out).mono ?_); exact fun _ _ h_ => ⟨h_.1, h_.2.out⟩)) | (go_at_call 86; apply Calls.quiet_of; ((with_reducible refine (impl_InRange.calls q 0 127 true _ A3.out).mono ?_); exact fun _ _ h_ => ⟨h_.1, h_.2.out⟩))))
          have F1 := sk_' (F.out.step (pn_' (Below.refl _ w4) nq))
          clear hy0 hy1
          clear gtc0 gtc1 gtf0 gtf1
          clear F
          generalize w4.drewN nq = w5 at F1 ⊢
          have F := F1
          clear F1
          have HA := sk_' H
          clear H
          go_wp2
          go_roundg k2
          case measure => omega
          case rel => exact ⟨wrap64 (x + 1), (by first | rfl | (simp; done) | (simp [*]; done)), HA, ⟨F.out.take 0⟩⟩
         rw [if_neg e2] at H
         exact absurd H (by simp)
        rw [if_neg e1] at H
        exact absurd H (by simp)
       rw [if_neg d3] at H
       have d3b : decide (0 < x) = false := decide_eq_false d3
       clear d3
       obtain ⟨gtc0, gtc1, gtf0, gtf1⟩ := F.out.c2 (i := 0) rfl
       go_quiet ((first | (go_at_call 86; apply Calls.quiet_of; ((with_reducible refine (impl_InRange.calls p 0 10000000 true _ A2.out).mono ?_); exact fun _ _ h_ => ⟨h_.1, h_.2.out⟩)) | (go_at_call 86; apply Calls.quiet_of; ((with_reducible refine (impl_InRange.calls q 0 127 true _ A3.out).mono ?_); exact fun _ _ h_ => ⟨h_.1, h_.2.out⟩))))
       have F1 := sk_' (F.out.step (pn_' (Below.refl _ w4) nq))
       clear gtc0 gtc1 gtf0 gtf1
       clear F
       generalize w4.drewN nq = w5 at F1 ⊢
       have F := F1
       clear F1
       have HA := sk_' H
       clear H
       go_wp2
       go_roundg k2
       case measure => omega
       case rel => exact ⟨wrap64 (x + 1), (by first | rfl | (simp; done) | (simp [*]; done)), HA, ⟨F.out.take 0⟩⟩
    rw [if_neg c2] at H
    exact absurd H (by simp)
   rw [if_neg c1] at H
   have cb1 : decide (x < (l0.length : Int)) = false := decide_eq_false c1
   clear c1
   obtain rfl := Option.some.inj H
   go_wp2
   go_ret
   exact ⟨by first | rfl | (simp; done) | (simp [*]; done), F.out.below⟩
end Go.Proofs.Ytbhlmeghbfmgiaa.F

namespace Go.Proofs.Ytbhlmeghbfmgiaa.F
open Go.RowKit Go.Proofs.YtbhlmeghbfmgiaaW.PrintWords Go.Proofs.YtbhlmeghbfmgiaaW.PrintLast Go.Proofs.YtbhlmeghbfmgiaaW.PrintMore
attribute [local go_sem] max2_int min2_int max_two min_two max_three min_three max_four min_four
set_option linter.unusedVariables false
set_option linter.unusedSimpArgs false
def impl_GapsOf.l0 : Nat → List (S49) → List Int → Int → Option (List Int)
 | 0, _, _, _ => none
 | k + 1, x0, x3, x4 => if x4 < (x0.length : Int) then (if 0 ≤ x4 then (if 0 ≤ (wrap64 (x4 - 1)) then (if (wrap64 (x4 - 1)) < (x0.length : Int) then (if x3.length < 17592186044416 then (impl_GapsOf.l0 k x0 (x3 ++ [wrap64 (((rd_T49 x0 x4).f0) - ((rd_T49 x0 (wrap64 (x4 - 1))).f0))]) (wrap64 (x4 + 1))) else (none)) else (none)) else (none)) else (none)) else (some x3)
def impl_GapsOf.f (k : Nat) (l0 : List (S49)) : Option (List Int) := (some (([] : List Int) : List Int)).bind fun y825 => ((impl_IsPerformance.f k l0).bind fun t828 => (if t828 = true then (impl_GapsOf.l0 k l0 y825 1) else (some y825)))
def impl_GapsOf.T6 : Bool × List (List Nat × List Nat) := (true, [([], []), ([], []), ([], []), ([1, 2], [1, 2]), ([3], [3]), ([4], [4]), ([], []), ([], []), ([7], [7]), ([6, 8], [6, 8]), ([9], [9]), ([10], [10]), ([5, 11], [5, 11]), ([12], [12]), ([0, 13], [0, 13]), ([14, 14, 0, 1, 2, 3, 4, 5, 6, 7, 8, 9, 10, 11, 12, 13, 14], [0, 14])])
def impl_GapsOf.B6 : List Nat := [0, 0, 0, 6, 14, 30, 0, 0, 128, 448, 960, 1984, 4094, 8190, 16383, 32767]
theorem impl_GapsOf.tab6 : rtab .any (opsOf Try.f26 6) = impl_GapsOf.T6 := by kernel_rfl
theorem impl_GapsOf.bits6 : waitsOk impl_GapsOf.T6.2 impl_GapsOf.B6 = true := by kernel_rfl
set_option maxHeartbeats 8000000 in
set_option maxRecDepth 100000 in
theorem impl_GapsOf.calls (k : Nat) (A0 : Option Addr) (c0 : Nat) (l0 : List (S49)) (r : List Int) (w : World) (hr0 : Kd.C k49 w A0 l0.length l0) (hc0 : l0.length ≤ c0) (h : impl_GapsOf.f k l0 = some r) :
  Calls Try.prog 26 #[.slice A0 l0.length c0] w fun e w' => ∃ v0_ : Value, e = .returned (v0_) ∧ Kd.R (Kd.int .i64) 3 w' w.heap.size (fun _ => True) v0_ r ∧ Below w.heap.size w w' := by
 have HR0 := sk_' hr0
 have HC0 := sk_' hc0
 clear hr0 hc0
 have HB := sk_' (Below.refl w.heap.size w)
 have H : ((some (([] : List Int) : List Int)).bind fun y825 => ((impl_IsPerformance.f k l0).bind fun t828 => (if t828 = true then (impl_GapsOf.l0 k l0 y825 1) else (some y825)))) = some r := h
 clear h
 obtain ⟨y825, hy825⟩ : ∃ y_ : List Int, y_ = (([] : List Int)) := ⟨_, rfl⟩
 replace H : ((impl_IsPerformance.f k l0).bind fun t828 => (if t828 = true then (impl_GapsOf.l0 k l0 y825 1) else (some y825))) = some r := by first | (rw [hy825]; with_reducible exact H) | (have H2_ := (Option.bind_some _ _).symm.trans H; rw [hy825]; with_reducible exact H2_) | (have H2_ := (Option.bind_some _ _).symm.trans H; with_reducible exact H2_) | with_reducible exact H | (rw [hy825]; exact H) | exact H
 have Ny825 := sk_' hy825
 clear hy825
 replace H := bs_' H
 obtain ⟨t828, A20, H⟩ := H
 try dsimp only at H
 have A2 := sk_' A20
 clear A20
 by_cases c3 : t828 = true
 ·
  subst c3
  rw [if_pos rfl] at H
  have H' := sk_' H
  clear H
  go_enter Try.func26, Try.ntmps26
  go_wp2_with (first | ((with_reducible refine gate_dst (N := 5) rfl ?_); refine Kd.R_lit (Kd.int .i64) _ 3 ?hg (N := 5) ?hd (xs := ([] : List Int)) (inner := []) (ok := fun _ => True) (okp := fun _ => True) ?hr ?hp (fun _ hk => hk) trivial (Below.refl _ _) (Nat.le_refl _) (by simp) ?_; (case hd => rfl); (case hg => rfl); (case hr => first | (go_simp; done) | (go_simp; rfl)); (case hp => exact (Reps.none _ _)); intro v826 w4 ho5 hb hg_ hnew_; clear hg_ hnew_; (first | rw [← Ny825.out] at ho5 | (simp only [Int.reduceToNat] at ho5; rw [← Ny825.out] at ho5)); have n0_ := sk_' (Kd.R_lower ho5 (ps_' (by repeat (first | (with_reducible first | exact HB.out | apply pa_' | apply pn_' | apply pd_') | exact HB.out)))); have n1_ := sk_' (pp_' (by repeat (first | (with_reducible first | exact HB.out | apply pa_' | apply pn_' | apply pd_') | exact HB.out)) hb); clear HB; have HO827 := n0_; have HB := n1_; clear n0_ n1_; clear hb ho5) | ((with_reducible refine xj_' (f := 25) rfl ?_); refine goesL_ (some 7) rfl rfl Try.func25 (by kernel_rfl) rfl #[.slice A0 l0.length c0] rfl (by (try simp only [xm_', xc_', xn_']); first | done | rfl | (simp only [xd_', xt_']; rfl)) ?_; (with_reducible refine (impl_IsPerformance.calls k _ _ l0 true _ ?side1 ?side2 A2.out).mono ?_); (case side1 => repeat (first | exact (Kd.C_below HR0.out HB.out) | (with_reducible refine xg_' ?_ _) | (with_reducible refine xe_' ?_ _) | (with_reducible refine xf_' ?_))); (case side2 => exact HC0.out); rintro e w6 ⟨rfl, hb⟩; refine ⟨_, rfl, ?_⟩; have n0_ := sk_' (xb_' (by (with_reducible repeat (first | apply ra_' | apply rn_' | apply rd1_')); exact HO827.out) hb); have n1_ := sk_' (pp_' (by repeat (first | (with_reducible first | exact HB.out | apply pa_' | apply pn_' | apply pd_') | exact HB.out)) hb); clear HO827; clear HB; have HO827 := n0_; have HB := n1_; clear n0_ n1_; (try clear hb); (try clear hb2); (try clear hk); (try clear hi)))
  go_loopg [3, 4] k (fun kq v3 v4 w' => ∃ (x3_1 : List Int) (x4_1 : Int), v4 = .int .i64 x4_1 ∧ Aside0 (impl_GapsOf.l0 kq l0 x3_1 x4_1 = some r) ∧ Aside0 (kq ≤ k) ∧ Aside0 (Kd.R (Kd.int .i64) 3 w' w.heap.size (fun _ => True) v3 x3_1) ∧ Aside0 (Below w.heap.size w w'))
  case atStart => exact ⟨(y825), (1), (by first | rfl | (simp; done) | (simp [*]; done)), H', ⟨Nat.le_refl _⟩, ⟨by (with_reducible repeat (first | apply ra_' | apply rn_' | apply rd1_')); exact HO827.out⟩, ⟨by repeat (first | (with_reducible first | exact HB.out | apply pa_' | apply pn_' | apply pd_') | exact HB.out)⟩⟩
  case round =>
   clear H'
   try clear c2
   try clear p2
   try clear c3
   obtain ⟨x3_1, x4_1, rfl, HA, HK1, HO_3, HB⟩ := hrel
   cases gk with
   | zero => exact absurd HA.out (by simp [impl_GapsOf.l0])
   | succ k1 =>
    have H := HA.out
    clear HA
    simp only [impl_GapsOf.l0] at H
    by_cases c7 : x4_1 < (l0.length : Int)
    ·
     rw [if_pos c7] at H
     have c7b0 : decide (x4_1 < (l0.length : Int)) = true := decide_eq_true c7
     clear c7
     by_cases c8 : 0 ≤ x4_1
     ·
      rw [if_pos c8] at H
      have c8b0 : decide (0 ≤ x4_1) = true := decide_eq_true c8
      clear c8
      obtain ⟨ji9, hji9⟩ : ∃ j_ : Int, (wrap64 (x4_1 - 1)) = j_ := ⟨_, rfl⟩
      replace H : (if 0 ≤ (ji9) then (if (ji9) < (l0.length : Int) then (if x3_1.length < 17592186044416 then (impl_GapsOf.l0 k1 l0 (x3_1 ++ [wrap64 (((rd_T49 l0 x4_1).f0) - ((rd_T49 l0 (ji9)).f0))]) (wrap64 (x4_1 + 1))) else (none)) else (none)) else (none)) = some r := by first | (rw [hji9] at H; exact H) | (simp only [hji9] at H ⊢; exact H)
      have hji9w : (IntKind.i64.wrap (x4_1 - 1)) = ji9 := (i64_w _).trans hji9
      by_cases c10 : 0 ≤ (ji9)
      ·
       rw [if_pos c10] at H
       have c10b0 : decide (0 ≤ (ji9)) = true := decide_eq_true c10
       clear c10
       by_cases c11 : (ji9) < (l0.length : Int)
       ·
        rw [if_pos c11] at H
        have c11b0 : decide ((ji9) < (l0.length : Int)) = true := decide_eq_true c11
        clear c11
        by_cases c12 : x3_1.length < 17592186044416
        ·
         rw [if_pos c12] at H
         have LMc12 := sk_' c12
         clear c12
         obtain ⟨y831, hy831⟩ : ∃ y_ : List Int, y_ = (x3_1 ++ [wrap64 (((rd_T49 l0 x4_1).f0) - ((rd_T49 l0 (ji9)).f0))]) := ⟨_, rfl⟩
         replace H : (impl_GapsOf.l0 k1 l0 y831 (wrap64 (x4_1 + 1))) = some r := by first | (rw [hy831]; with_reducible exact H) | (have H2_ := (Option.bind_some _ _).symm.trans H; rw [hy831]; with_reducible exact H2_) | (have H2_ := (Option.bind_some _ _).symm.trans H; with_reducible exact H2_) | with_reducible exact H | (rw [hy831]; exact H) | exact H
         have Ny831 := sk_' hy831
         clear hy831
         have H' := sk_' H
         clear H
         try go_wp2
         have n0_ := sk_' (rd1_' HO_3.out)
         have n1_ := sk_' (pd_' HB.out)
         clear HO_3
         clear HB
         have HO_3 := n0_
         have HB := n1_
         clear n0_ n1_
         have p829 : 0 ≤ (x4_1 : Int) := od_' (by first | (with_reducible assumption) | assumption)
         have q829 : x4_1 < (l0.length : Int) := od_' (by first | (with_reducible assumption) | assumption)
         obtain ⟨ad829, e829, hx829_0, hx829_1⟩ := at_T49 HR0.out x4_1 p829 q829
         have hw829_1 := hx829_1
         have hw829_0 := hx829_0
         cases e829
         replace hx829_0 := (HB.out.cell (bq_' w _ hx829_0)).trans hx829_0
         replace hx829_1 := (HB.out.cell (bq_' w _ hx829_1)).trans hx829_1
         replace p829 := eq_true p829
         replace q829 := eq_true q829
         have p830 : 0 ≤ ((ji9) : Int) := od_' (by first | (with_reducible assumption) | assumption)
         have q830 : (ji9) < (l0.length : Int) := od_' (by first | (with_reducible assumption) | assumption)
         obtain ⟨ad830, e830, hx830_0, hx830_1⟩ := at_T49 HR0.out (ji9) p830 q830
         have hw830_1 := hx830_1
         have hw830_0 := hx830_0
         obtain rfl : ad829 = ad830 := (by injection e830)
         replace hx830_0 := (HB.out.cell (bq_' w _ hx830_0)).trans hx830_0
         replace hx830_1 := (HB.out.cell (bq_' w _ hx830_1)).trans hx830_1
         replace p830 := eq_true p830
         replace q830 := eq_true q830
         refine start_ (n := 16) (S := fun w' => w'.cell? (ad829.add ((x4_1).toNat * 2)) = some (.int .i64 ((rd_T49 l0 x4_1).f0)) ∧ w'.cell? ⟨(ad829.add ((x4_1).toNat * 2)).block, (ad829.add ((x4_1).toNat * 2)).off + 1, none⟩ = some (.int .i64 ((rd_T49 l0 x4_1).f1)) ∧ w'.cell? (ad829.add (((ji9)).toNat * 2)) = some (.int .i64 ((rd_T49 l0 (ji9)).f0)) ∧ w'.cell? ⟨(ad829.add (((ji9)).toNat * 2)).block, (ad829.add (((ji9)).toNat * 2)).off + 1, none⟩ = some (.int .i64 ((rd_T49 l0 (ji9)).f1))) (ds := []) #[false, false, false, false, false, false, false, false, false, false, false, false, false, false, false, false] (by kernel_rfl) rfl rfl ⟨((HB.out.cell (bq_' w _ hw829_0)).trans hw829_0), ((HB.out.cell (bq_' w _ hw829_1)).trans hw829_1), ((HB.out.cell (bq_' w _ hw830_0)).trans hw830_0), ((HB.out.cell (bq_' w _ hw830_1)).trans hw830_1)⟩ (fun hHeld => ?_); refine with_tabW impl_GapsOf.tab6 impl_GapsOf.bits6 (fun HT_ HW_ => ?_)
         generalize wr.drew = w13 at HO_3 HB hx829_0 hx829_1 hx830_0 hx830_1 hHeld ⊢
         refine pure_ (i := 0) (N := some 14) (v := ?_) (a' := ?_) #[true, false, false, false, false, false, false, false, false, false, false, false, false, false, false, false] rfl rfl (any_of HT_.out (by kernel_rfl)) (fun _ _ _ h => h) (Or.inl ⟨by rfl, ?_⟩) ?_ ?_
         rotate_left
         ·
          intro w'
          go_simp
          with_reducible rfl
         rotate_left
         ·
          simp only [Act.put, sa_', sz_', sc_', i64_w, i32_w]
          rfl
         refine pure_ (i := 1) (N := some 15) (v := ?_) (a' := ?_) #[true, true, false, false, false, false, false, false, false, false, false, false, false, false, false, false] rfl rfl (any_of HT_.out (by kernel_rfl)) (fun _ _ _ h => h) (Or.inl ⟨by rfl, ?_⟩) ?_ ?_
         rotate_left
         ·
          intro w'
          go_simp
          with_reducible rfl
         rotate_left
         ·
          simp only [Act.put, sa_', sz_', sc_', i64_w, i32_w]
          rfl
         refine pure_ (i := 2) (N := some 16) (v := ?_) (a' := ?_) #[true, true, true, false, false, false, false, false, false, false, false, false, false, false, false, false] rfl rfl (any_of HT_.out (by kernel_rfl)) (fun _ _ _ h => h) (Or.inl ⟨by rfl, ?_⟩) ?_ ?_
         rotate_left
         ·
          intro w'
          go_simp
          with_reducible rfl
         rotate_left
         ·
          simp only [Act.put, sa_', sz_', sc_', i64_w, i32_w]
          rfl
         refine pure_ (i := 3) (N := some 17) (v := ?_) (a' := ?_) #[true, true, true, true, false, false, false, false, false, false, false, false, false, false, false, false] rfl rfl (any_of HT_.out (by kernel_rfl)) (fun _ _ _ h => h) (Or.inl ⟨by rfl, ?_⟩) ?_ ?_
         rotate_left
         ·
          intro w'
          go_simp
          with_reducible rfl
         rotate_left
         ·
          simp only [Act.put, sa_', sz_', sc_', i64_w, i32_w]
          rfl
         refine pure_ (i := 4) (N := some 18) (v := ?_) (a' := ?_) #[true, true, true, true, true, false, false, false, false, false, false, false, false, false, false, false] rfl rfl (any_of HT_.out (by kernel_rfl)) (fun _ _ _ h => h) (Or.inl ⟨by rfl, ?_⟩) ?_ ?_
         rotate_left
         ·
          intro w'
          go_simp
          with_reducible rfl
         rotate_left
         ·
          simp only [Act.put, sa_', sz_', sc_', i64_w, i32_w]
          rfl
         refine pure_ (i := 6) (N := some 20) (v := ?_) (a' := ?_) #[true, true, true, true, true, false, true, false, false, false, false, false, false, false, false, false] rfl rfl (any_of HT_.out (by kernel_rfl)) (fun _ _ _ h => h) (Or.inl ⟨by rfl, ?_⟩) ?_ ?_
         rotate_left
         ·
          intro w'
          go_simp
          with_reducible rfl
         rotate_left
         ·
          simp only [Act.put, sa_', sz_', sc_', i64_w, i32_w]
          rfl
         refine pure_ (i := 7) (N := some 21) (v := ?_) (a' := ?_) #[true, true, true, true, true, false, true, true, false, false, false, false, false, false, false, false] rfl rfl (any_of HT_.out (by kernel_rfl)) (fun _ _ _ h => h) (Or.inl ⟨by rfl, ?_⟩) ?_ ?_
         rotate_left
         ·
          intro w'
          go_simp
          with_reducible rfl
         rotate_left
         ·
          simp only [Act.put, sa_', sz_', sc_', i64_w, i32_w]
          rfl
         refine pure_ (i := 8) (N := some 22) (v := ?_) (a' := ?_) #[true, true, true, true, true, false, true, true, true, false, false, false, false, false, false, false] rfl rfl (any_of HT_.out (by kernel_rfl)) (fun _ _ _ h => h) (Or.inl ⟨by rfl, ?_⟩) ?_ ?_
         rotate_left
         ·
          intro w'
          go_simp
          with_reducible rfl
         rotate_left
         ·
          simp only [Act.put, sa_', sz_', sc_', i64_w, i32_w]
          rfl
         refine pure_ (i := 9) (N := some 23) (v := ?_) (a' := ?_) #[true, true, true, true, true, false, true, true, true, true, false, false, false, false, false, false] rfl rfl (any_of HT_.out (by kernel_rfl)) (fun _ _ _ h => h) (Or.inl ⟨by rfl, ?_⟩) ?_ ?_
         rotate_left
         ·
          intro w'
          go_simp
          with_reducible rfl
         rotate_left
         ·
          simp only [Act.put, sa_', sz_', sc_', i64_w, i32_w]
          rfl
         refine pure_ (i := 10) (N := some 24) (v := ?_) (a' := ?_) #[true, true, true, true, true, false, true, true, true, true, true, false, false, false, false, false] rfl rfl (any_of HT_.out (by kernel_rfl)) (fun _ _ _ h => h) (Or.inl ⟨by rfl, ?_⟩) ?_ ?_
         rotate_left
         ·
          intro w'
          go_simp
          with_reducible rfl
         rotate_left
         ·
          simp only [Act.put, sa_', sz_', sc_', i64_w, i32_w]
          rfl
         refine take_ (i := 5) (N := some 19) (v := ?_) (a' := ?_) #[true, true, true, true, true, true, true, true, true, true, true, false, false, false, false, false] rfl rfl (take_ofW HT_.out HW_.out (by kernel_rfl)) (fun _ _ _ h => h) (Or.inl ⟨by rfl, ?_⟩) hHeld ?_ ?_
         rotate_left
         ·
          rintro w' ⟨s0, s1, s2, s3⟩
          go_simp
          with_reducible rfl
         rotate_left
         ·
          simp only [Act.put, sa_', sz_', sc_', i64_w, i32_w]
          rfl
         refine take_ (i := 11) (N := some 25) (v := ?_) (a' := ?_) #[true, true, true, true, true, true, true, true, true, true, true, true, false, false, false, false] rfl rfl (take_ofW HT_.out HW_.out (by kernel_rfl)) (fun _ _ _ h => h) (Or.inl ⟨by rfl, ?_⟩) hHeld ?_ ?_
         rotate_left
         ·
          rintro w' ⟨s0, s1, s2, s3⟩
          go_simp
          with_reducible rfl
         rotate_left
         ·
          simp only [Act.put, sa_', sz_', sc_', i64_w, i32_w]
          rfl
         refine pure_ (i := 12) (N := some 26) (v := ?_) (a' := ?_) #[true, true, true, true, true, true, true, true, true, true, true, true, true, false, false, false] rfl rfl (any_of HT_.out (by kernel_rfl)) (fun _ _ _ h => h) (Or.inl ⟨by rfl, ?_⟩) ?_ ?_
         rotate_left
         ·
          intro w'
          go_simp
          with_reducible rfl
         rotate_left
         ·
          simp only [Act.put, sa_', sz_', sc_', i64_w, i32_w]
          rfl
         refine one_ (i := 13) (N := some 27) #[true, true, true, true, true, true, true, true, true, true, true, true, true, true, false, false] rfl rfl (one_of HT_.out (by kernel_rfl)) (by decide) (fun K hK => ?_)
         refine value_ (w1 := ?_) (v := ?_) (by rfl) rfl ?_ ?_
         rotate_left 2
         ·
          go_simp
          constructor
          ·
           rfl
          rfl
         refine hK.out _ _ ⟨(World.cell?_alloc_lt _ _ _ (bq_' _ _ (((HB.out.cell (bq_' w _ hw829_0)).trans hw829_0)))).trans (((HB.out.cell (bq_' w _ hw829_0)).trans hw829_0)), (World.cell?_alloc_lt _ _ _ (bq_' _ _ (((HB.out.cell (bq_' w _ hw829_1)).trans hw829_1)))).trans (((HB.out.cell (bq_' w _ hw829_1)).trans hw829_1)), (World.cell?_alloc_lt _ _ _ (bq_' _ _ (((HB.out.cell (bq_' w _ hw830_0)).trans hw830_0)))).trans (((HB.out.cell (bq_' w _ hw830_0)).trans hw830_0)), (World.cell?_alloc_lt _ _ _ (bq_' _ _ (((HB.out.cell (bq_' w _ hw830_1)).trans hw830_1)))).trans (((HB.out.cell (bq_' w _ hw830_1)).trans hw830_1))⟩ (fun hHeld => ?_)
         clear hK K
         refine norm_ (a' := ?_) ?_ ?_
         rotate_left
         ·
          show Act.put _ (some 27) _ = _
          simp only [Act.put, sa_', sz_', sc_', i64_w, i32_w]
          rfl
         refine one_ (i := 14) (N := some 28) #[true, true, true, true, true, true, true, true, true, true, true, true, true, true, true, false] rfl rfl (one_of HT_.out (by kernel_rfl)) (by decide) (fun K hK => ?_)
         refine Kd.R_append_step (Kd.int .i64) (w0 := w) w.heap.size (by rfl) (.tmp 14) (.tmp 27) 35 3 (.int .i64 0) 8 rfl Try.underlying35 info3 rfl (by decide) (by omega) u3 x3_1 (wrap64 (((rd_T49 l0 x4_1).f0) - ((rd_T49 l0 (ji9)).f0))) [.int .i64 (wrap64 (((rd_T49 l0 x4_1).f0) - ((rd_T49 l0 (ji9)).f0)))] (fun _ => True) (fun _ => False) rfl rfl ?aP (fun _ hk => hk.elim) ?aF ?aO ?aB ?aS ?aL ?_
         (case aP => exact rfl)
         (case aB => exact (by repeat (first | (with_reducible first | exact HB.out | apply pa_' | apply pn_' | apply pd_') | exact HB.out)))
         (case aF => exact (fun _ _ => trivial))
         (case aO => exact (by (with_reducible repeat (first | apply ra_' | apply rn_' | apply rd1_')); exact HO_3.out))
         (case aS => exact (ps_' (by repeat (first | (with_reducible first | exact HB.out | apply pa_' | apply pn_' | apply pd_') | exact HB.out))))
         (case aL => have := LMc12.out; omega)
         intro v832 w14 ho hb hg hat
         rw [← Ny831.out] at ho
         have n0_ := sk_' (hb)
         have n1_ := sk_' (ho)
         clear HB
         clear HO_3
         have HB := n0_
         have HO833 := n1_
         clear n0_ n1_
         clear ho hb hg hat
         refine hK.out _ _ ⟨((HB.out.cell (bq_' w _ hw829_0)).trans hw829_0), ((HB.out.cell (bq_' w _ hw829_1)).trans hw829_1), ((HB.out.cell (bq_' w _ hw830_0)).trans hw830_0), ((HB.out.cell (bq_' w _ hw830_1)).trans hw830_1)⟩ (fun hHeld => ?_)
         clear hK K
         refine norm_ (a' := ?_) ?_ ?_
         rotate_left
         ·
          show Act.put _ (some 28) _ = _
          simp only [Act.put, sa_', sz_', sc_', i64_w, i32_w]
          rfl
         refine pure_ (i := 15) (N := some 3) (v := ?_) (a' := ?_) #[true, true, true, true, true, true, true, true, true, true, true, true, true, true, true, true] rfl rfl (any_of HT_.out (by kernel_rfl)) (fun _ _ _ h => h) (Or.inl ⟨by rfl, ?_⟩) ?_ ?_
         rotate_left
         ·
          intro w'
          go_simp
          with_reducible rfl
         rotate_left
         ·
          simp only [Act.put, sa_', sz_', sc_', i64_w, i32_w]
          rfl
         refine done_ (done_of HT_.out (by kernel_rfl)) ?_
         try go_wp2
         go_roundg k1
         case measure => have := HK1.out; omega
         case rel => exact ⟨(y831), (wrap64 (x4_1 + 1)), (by first | rfl | (simp; done) | (simp [*]; done)), H', ⟨by have := HK1.out; omega⟩, ⟨by (with_reducible repeat (first | apply ra_' | apply rn_' | apply rd1_')); exact HO833.out⟩, ⟨by repeat (first | (with_reducible first | exact HB.out | apply pa_' | apply pn_' | apply pd_') | exact HB.out)⟩⟩
        rw [if_neg c12] at H
        exact absurd H (by simp)
       rw [if_neg c11] at H
       exact absurd H (by simp)
      rw [if_neg c10] at H
      exact absurd H (by simp)
     rw [if_neg c8] at H
     exact absurd H (by simp)
    rw [if_neg c7] at H
    have c7b0 : decide (x4_1 < (l0.length : Int)) = false := decide_eq_false c7
    clear c7
    obtain rfl := Option.some.inj H
    go_wp2
    go_ret
    exact ⟨_, by first | rfl | (simp [errW_none, errW_some] <;> rfl) | (simp [*, errW_none, errW_some] <;> rfl), by (with_reducible repeat (first | apply ra_' | apply rn_' | apply rd1_')); exact HO_3.out, by repeat (first | (with_reducible first | exact HB.out | apply pa_' | apply pn_' | apply pd_') | exact HB.out)⟩
 replace c3 := Bool.eq_false_iff.mpr c3
 subst c3
 rw [if_neg (show ¬ (false = true) by decide)] at H
 obtain rfl := Option.some.inj H
 go_enter Try.func26, Try.ntmps26
 go_wp2_with (first | ((with_reducible refine gate_dst (N := 5) rfl ?_); refine Kd.R_lit (Kd.int .i64) _ 3 ?hg (N := 5) ?hd (xs := ([] : List Int)) (inner := []) (ok := fun _ => True) (okp := fun _ => True) ?hr ?hp (fun _ hk => hk) trivial (Below.refl _ _) (Nat.le_refl _) (by simp) ?_; (case hd => rfl); (case hg => rfl); (case hr => first | (go_simp; done) | (go_simp; rfl)); (case hp => exact (Reps.none _ _)); intro v826 w15 ho16 hb hg_ hnew_; clear hg_ hnew_; (first | rw [← Ny825.out] at ho16 | (simp only [Int.reduceToNat] at ho16; rw [← Ny825.out] at ho16)); have n0_ := sk_' (Kd.R_lower ho16 (ps_' (by repeat (first | (with_reducible first | exact HB.out | apply pa_' | apply pn_' | apply pd_') | exact HB.out)))); have n1_ := sk_' (pp_' (by repeat (first | (with_reducible first | exact HB.out | apply pa_' | apply pn_' | apply pd_') | exact HB.out)) hb); clear HB; have HO827 := n0_; have HB := n1_; clear n0_ n1_; clear hb ho16) | ((with_reducible refine xj_' (f := 25) rfl ?_); refine goesL_ (some 7) rfl rfl Try.func25 (by kernel_rfl) rfl #[.slice A0 l0.length c0] rfl (by (try simp only [xm_', xc_', xn_']); first | done | rfl | (simp only [xd_', xt_']; rfl)) ?_; (with_reducible refine (impl_IsPerformance.calls k _ _ l0 false _ ?side1 ?side2 A2.out).mono ?_); (case side1 => repeat (first | exact (Kd.C_below HR0.out HB.out) | (with_reducible refine xg_' ?_ _) | (with_reducible refine xe_' ?_ _) | (with_reducible refine xf_' ?_))); (case side2 => exact HC0.out); rintro e w17 ⟨rfl, hb⟩; refine ⟨_, rfl, ?_⟩; have n0_ := sk_' (xb_' (by (with_reducible repeat (first | apply ra_' | apply rn_' | apply rd1_')); exact HO827.out) hb); have n1_ := sk_' (pp_' (by repeat (first | (with_reducible first | exact HB.out | apply pa_' | apply pn_' | apply pd_') | exact HB.out)) hb); clear HO827; clear HB; have HO827 := n0_; have HB := n1_; clear n0_ n1_; (try clear hb); (try clear hb2); (try clear hk); (try clear hi)))
 go_ret
 exact ⟨_, by first | rfl | (simp [errW_none, errW_some] <;> rfl) | (simp [*, errW_none, errW_some] <;> rfl), by (with_reducible repeat (first | apply ra_' | apply rn_' | apply rd1_')); exact HO827.out, by repeat (first | (with_reducible first | exact HB.out | apply pa_' | apply pn_' | apply pd_') | exact HB.out)⟩
end Go.Proofs.Ytbhlmeghbfmgiaa.F

namespace Go.Proofs.Ytbhlmeghbfmgiaa.F
open Go.RowKit Go.Proofs.YtbhlmeghbfmgiaaW.PrintWords Go.Proofs.YtbhlmeghbfmgiaaW.PrintLast Go.Proofs.YtbhlmeghbfmgiaaW.PrintMore
attribute [local go_sem] max2_int min2_int max_two min_two max_three min_three max_four min_four
set_option linter.unusedVariables false
set_option linter.unusedSimpArgs false
def impl_PitchesOf.l0 : Nat → List Int → List (S49) → Int → Int → Option (List Int)
 | 0, _, _, _, _ => none
 | k + 1, x3, x7, x8, x9 => if x9 < x8 then (if 0 ≤ x9 then (if x9 < (x7.length : Int) then (if x3.length < 17592186044416 then (impl_PitchesOf.l0 k (x3 ++ [(rd_T49 x7 x9).f1]) x7 x8 (wrap64 (x9 + 1))) else (none)) else (none)) else (none)) else (some x3)
def impl_PitchesOf.f (k : Nat) (l0 : List (S49)) : Option (List Int) := impl_PitchesOf.l0 k (([] : List Int)) l0 (l0.length : Int) 0
set_option maxHeartbeats 8000000 in
set_option maxRecDepth 100000 in
theorem impl_PitchesOf.calls (k : Nat) (A0 : Option Addr) (c0 : Nat) (l0 : List (S49)) (r : List Int) (w : World) (hr0 : Kd.C k49 w A0 l0.length l0) (hc0 : l0.length ≤ c0) (h : impl_PitchesOf.f k l0 = some r) :
  Calls Try.prog 27 #[.slice A0 l0.length c0] w fun e w' => ∃ v0_ : Value, e = .returned (v0_) ∧ Kd.R (Kd.int .i64) 3 w' w.heap.size (fun _ => True) v0_ r ∧ Below w.heap.size w w' := by
 have hu49 := Try.underlying49
 have HR0 := sk_' hr0
 have HC0 := sk_' hc0
 clear hr0 hc0
 have HB := sk_' (Below.refl w.heap.size w)
 have H : (impl_PitchesOf.l0 k (([] : List Int)) l0 (l0.length : Int) 0) = some r := h
 clear h
 obtain ⟨y834, hy834⟩ : ∃ y_ : List Int, y_ = (([] : List Int)) := ⟨_, rfl⟩
 replace H : (impl_PitchesOf.l0 k y834 l0 (l0.length : Int) 0) = some r := by first | (rw [hy834]; with_reducible exact H) | (have H2_ := (Option.bind_some _ _).symm.trans H; rw [hy834]; with_reducible exact H2_) | (have H2_ := (Option.bind_some _ _).symm.trans H; with_reducible exact H2_) | with_reducible exact H | (rw [hy834]; exact H) | exact H
 have Ny834 := sk_' hy834
 clear hy834
 have H' := sk_' H
 clear H
 go_enter Try.func27, Try.ntmps27
 go_wp2_with (first | ((with_reducible refine gate_dst (N := 6) rfl ?_); refine Kd.R_lit (Kd.int .i64) _ 3 ?hg (N := 6) ?hd (xs := ([] : List Int)) (inner := []) (ok := fun _ => True) (okp := fun _ => True) ?hr ?hp (fun _ hk => hk) trivial (Below.refl _ _) (Nat.le_refl _) (by simp) ?_; (case hd => rfl); (case hg => rfl); (case hr => first | (go_simp; done) | (go_simp; rfl)); (case hp => exact (Reps.none _ _)); intro v835 w2 ho3 hb hg_ hnew_; clear hg_ hnew_; (first | rw [← Ny834.out] at ho3 | (simp only [Int.reduceToNat] at ho3; rw [← Ny834.out] at ho3)); have n0_ := sk_' (Kd.R_lower ho3 (ps_' (by repeat (first | (with_reducible first | exact HB.out | apply pa_' | apply pn_' | apply pd_') | exact HB.out)))); have n1_ := sk_' (pp_' (by repeat (first | (with_reducible first | exact HB.out | apply pa_' | apply pn_' | apply pd_') | exact HB.out)) hb); clear HB; have HO836 := n0_; have HB := n1_; clear n0_ n1_; clear hb ho3))
 go_loopg [3, 9] k (fun kq v3 v9 w' => ∃ (x3_1 : List Int) (x9_1 : Int), v9 = .int .i64 x9_1 ∧ Aside0 (impl_PitchesOf.l0 kq x3_1 l0 (l0.length : Int) x9_1 = some r) ∧ Aside0 (kq ≤ k) ∧ Aside0 (Kd.R (Kd.int .i64) 3 w' w.heap.size (fun _ => True) v3 x3_1) ∧ Aside0 (Below w.heap.size w w'))
 case atStart => exact ⟨(y834), (0), (by first | rfl | (simp; done) | (simp [*]; done)), H', ⟨Nat.le_refl _⟩, ⟨by (with_reducible repeat (first | apply ra_' | apply rn_' | apply rd1_')); exact HO836.out⟩, ⟨by repeat (first | (with_reducible first | exact HB.out | apply pa_' | apply pn_' | apply pd_') | exact HB.out)⟩⟩
 case round =>
  clear H'
  try clear c2
  try clear p2
  obtain ⟨x3_1, x9_1, rfl, HA, HK1, HO_3, HB⟩ := hrel
  cases gk with
  | zero => exact absurd HA.out (by simp [impl_PitchesOf.l0])
  | succ k1 =>
   have H := HA.out
   clear HA
   simp only [impl_PitchesOf.l0] at H
   by_cases c4 : x9_1 < (l0.length : Int)
   ·
    rw [if_pos c4] at H
    have c4b0 : decide (x9_1 < (l0.length : Int)) = true := decide_eq_true c4
    clear c4
    by_cases c5 : 0 ≤ x9_1
    ·
     rw [if_pos c5] at H
     have c5b0 : decide (0 ≤ x9_1) = true := decide_eq_true c5
     clear c5
     by_cases c6 : x9_1 < (l0.length : Int)
     ·
      rw [if_pos c6] at H
      have c6b0 : decide (x9_1 < (l0.length : Int)) = true := decide_eq_true c6
      clear c6
      by_cases c7 : x3_1.length < 17592186044416
      ·
       rw [if_pos c7] at H
       have LMc7 := sk_' c7
       clear c7
       obtain ⟨y839, hy839⟩ : ∃ y_ : List Int, y_ = (x3_1 ++ [(rd_T49 l0 x9_1).f1]) := ⟨_, rfl⟩
       replace H : (impl_PitchesOf.l0 k1 y839 l0 (l0.length : Int) (wrap64 (x9_1 + 1))) = some r := by first | (rw [hy839]; with_reducible exact H) | (have H2_ := (Option.bind_some _ _).symm.trans H; rw [hy839]; with_reducible exact H2_) | (have H2_ := (Option.bind_some _ _).symm.trans H; with_reducible exact H2_) | with_reducible exact H | (rw [hy839]; exact H) | exact H
       have Ny839 := sk_' hy839
       clear hy839
       have H' := sk_' H
       clear H
       have p837 : 0 ≤ (x9_1 : Int) := od_' (by first | (with_reducible assumption) | assumption)
       have q837 : x9_1 < (l0.length : Int) := od_' (by first | (with_reducible assumption) | assumption)
       obtain ⟨ad837, e837, hx837_0, hx837_1⟩ := at_T49 HR0.out x9_1 p837 q837
       cases e837
       replace hx837_0 := (HB.out.cell (bq_' w _ hx837_0)).trans hx837_0
       replace hx837_1 := (HB.out.cell (bq_' w _ hx837_1)).trans hx837_1
       replace p837 := eq_true p837
       replace q837 := eq_true q837
       go_wp2_with (first | ((with_reducible refine gate_dst (N := 5) rfl ?_); refine box_event ?hg (N := 5) ?hd (cs := #[.int .i64 0, .int .i64 0]) (t := 49) ?hr ?_; (case hd => rfl); (case hg => rfl); (case hr => first | (go_simp; done) | (go_simp; rfl)); intro gb838 hg w8 hbox hb; have n0_ := sk_' (xb_' (by (with_reducible repeat (first | apply ra_' | apply rn_' | apply rd1_')); exact HO_3.out) hb); have n1_ := sk_' (pp_' (by repeat (first | (with_reducible first | exact HB.out | apply pa_' | apply pn_' | apply pd_') | exact HB.out)) hb); have n2_ := sk_' (hbox); have n3_ := sk_' ((by rw [hg]; exact (ps_' (by repeat (first | (with_reducible first | exact HB.out | apply pa_' | apply pn_' | apply pd_') | exact HB.out))) : w.heap.size ≤ gb838)); have n4_ := sk_' ((by rw [hg]; exact (ps_' (by repeat (first | (with_reducible first | exact HB.out | apply pa_' | apply pn_' | apply pd_') | exact HB.out))) : w.heap.size ≤ gb838)); clear HO_3; clear HB; have HO_3 := n0_; have HB := n1_; have BK838 := n2_; have GW838 := n3_; have GE838 := n4_; clear n0_ n1_ n2_ n3_ n4_; clear hb hbox hg; have hcz9_0 : w8.cell? ⟨gb838, 0, none⟩ = some (.int .i64 0) := (kc_' BK838.out 0).trans rfl; have hcz9_1 : w8.cell? ⟨gb838, 1, none⟩ = some (.int .i64 0) := (kc_' BK838.out 1).trans rfl; have hfz9_0 := kf_' BK838.out 0; have hfz9_1 := kf_' BK838.out 1) | ((with_reducible refine gate_builtin (b := .append) (xs := #[.tmp 13, .tmp 16]) rfl ?_); at_builtin; refine Kd.R_append (Kd.int .i64) (w0 := w) w.heap.size rfl (.tmp 13) (.tmp 16) 35 3 (.int .i64 0) 8 rfl Try.underlying35 info3 rfl (by decide) (by omega) u3 x3_1 ((rd_T49 l0 x9_1).f1) [.int .i64 ((rd_T49 l0 x9_1).f1)] (fun _ => True) (fun _ => False) rfl (by first | (go_simp; done) | (go_simp; rfl)) ?aP (fun _ hk => hk.elim) ?aF ?aO ?aB ?aS ?aL ?_; (case aP => exact rfl); (case aB => exact (by repeat (first | (with_reducible first | exact HB.out | apply pa_' | apply pn_' | apply pd_' | refine pt_' ?_ GE838.out) | exact HB.out))); (case aF => exact (fun _ _ => trivial)); (case aO => exact (by (with_reducible repeat (first | apply ra_' | apply rn_' | apply rd1_')); exact xi_' (Kd.R_far (p := ⟨gb838, 1, none⟩) (Kd.R_far (p := ⟨gb838, 0, none⟩) (Kd.R_types HO_3.out BK838.out (by decide)) (fun _ hk => hk.2) (.int .i64 ((rd_T49 l0 x9_1).f0))) (fun _ hk => hk.2) (.int .i64 ((rd_T49 l0 x9_1).f1))) (fun _ hk => trivial))); (case aS => exact (ps_' (by repeat (first | (with_reducible first | exact HB.out | apply pa_' | apply pn_' | apply pd_' | refine pt_' ?_ GE838.out) | exact HB.out)))); (case aL => have := LMc7.out; omega); intro v840 w10 ho hb hg hat; rw [← Ny839.out] at ho; have n0_ := sk_' (blk_grown (g := gb838) (o := .cells #[.int .i64 ((rd_T49 l0 x9_1).f0), .int .i64 ((rd_T49 l0 x9_1).f1)] 49 (0, 0)) (by (with_reducible repeat (first | refine kn_' ?_ _ | refine kd_' ?_ | refine ka_' ?_ _)); refine blk_put (cs := #[.int .i64 ((rd_T49 l0 x9_1).f0), .int .i64 0]) ?_ 1 _ rfl; (with_reducible repeat (first | refine kn_' ?_ _ | refine kd_' ?_ | refine ka_' ?_ _)); refine blk_put (cs := #[.int .i64 0, .int .i64 0]) ?_ 0 _ rfl; (with_reducible repeat (first | refine kn_' ?_ _ | refine kd_' ?_ | refine ka_' ?_ _)); exact BK838.out) hg (Kd.R_ne HO_3.out BK838.out (by decide))); have n1_ := sk_' (hb); have n2_ := sk_' (ho); clear BK838; clear HB; clear HO_3; have BK838 := n0_; have HB := n1_; have HO841 := n2_; clear n0_ n1_ n2_; clear ho hb hg hat))
       go_roundg k1
       case measure => have := HK1.out; omega
       case rel => exact ⟨(y839), (wrap64 (x9_1 + 1)), (by first | rfl | (simp; done) | (simp [*]; done)), H', ⟨by have := HK1.out; omega⟩, ⟨by (with_reducible repeat (first | apply ra_' | apply rn_' | apply rd1_')); exact HO841.out⟩, ⟨by repeat (first | (with_reducible first | exact HB.out | apply pa_' | apply pn_' | apply pd_' | refine pt_' ?_ GE838.out) | exact HB.out)⟩⟩
      rw [if_neg c7] at H
      exact absurd H (by simp)
     rw [if_neg c6] at H
     exact absurd H (by simp)
    rw [if_neg c5] at H
    exact absurd H (by simp)
   rw [if_neg c4] at H
   have c4b0 : decide (x9_1 < (l0.length : Int)) = false := decide_eq_false c4
   clear c4
   obtain rfl := Option.some.inj H
   go_wp2
   go_ret
   exact ⟨_, by first | rfl | (simp [errW_none, errW_some] <;> rfl) | (simp [*, errW_none, errW_some] <;> rfl), by (with_reducible repeat (first | apply ra_' | apply rn_' | apply rd1_')); exact HO_3.out, by repeat (first | (with_reducible first | exact HB.out | apply pa_' | apply pn_' | apply pd_') | exact HB.out)⟩
end Go.Proofs.Ytbhlmeghbfmgiaa.F

namespace Go.Proofs.Ytbhlmeghbfmgiaa.F
open Go.RowKit Go.Proofs.YtbhlmeghbfmgiaaW.PrintWords Go.Proofs.YtbhlmeghbfmgiaaW.PrintLast Go.Proofs.YtbhlmeghbfmgiaaW.PrintMore
attribute [local go_sem] max2_int min2_int max_two min_two max_three min_three max_four min_four
set_option linter.unusedVariables false
set_option linter.unusedSimpArgs false
def spec_l1Once.f (s0_0 : List Int) (s0_1 : Int) (s0_2 : Int) (a1 : Int) : Option (Bool × Int × Int) := (spec_l1Below.f s0_0 s0_1 s0_2 a1).bind fun bt265 => (some ((bt265.1 == 0), bt265.2.1, bt265.2.2))
set_option maxHeartbeats 8000000 in
set_option maxRecDepth 100000 in
theorem spec_l1Once.calls (g : Nat) (s0_0 : List Int) (s0_1 : Int) (s0_2 : Int) (a1 : Int) (r1 : Bool) (r2 : Int) (r3 : Int) (w0 w : World) (hI : IsS157 w0 w g s0_0 s0_1 s0_2) (hB : Below w0.heap.size w0 w) (h : spec_l1Once.f s0_0 s0_1 s0_2 a1 = some (r1, r2, r3)) :
  Calls Try.prog 77 #[.pointer (some ⟨g, 0, none⟩), .int .i64 a1] w fun e w' => e = .returned (.bool r1) ∧ IsS157 w0 w' g s0_0 r2 r3 ∧ Below w0.heap.size w0 w' ∧ KeepBut w w' g none := by
 have HI0 := sk_' hI
 have HK := sk_' (KeepBut.refl w g none)
 have HL := sk_' hB.size
 clear hI
 have HW0 := sk_' hB.size
 have HB := sk_' hB
 clear hB
 have H : ((spec_l1Below.f s0_0 s0_1 s0_2 a1).bind fun bt265 => (some ((bt265.1 == 0), bt265.2.1, bt265.2.2))) = some (r1, r2, r3) := h
 clear h
 replace H := bs_' H
 obtain ⟨⟨t265, t266, t267⟩, A30, H⟩ := H
 try dsimp only at H
 have A3 := sk_' A30
 clear A30
 simp only [Option.some.injEq, Prod.mk.injEq] at H
 obtain ⟨rfl, rfl, rfl⟩ := H
 go_enter Try.func77, Try.ntmps77
 go_wp2_with (first | ((with_reducible refine xj_' (f := 91) rfl ?_); refine goesL_ (some 7) rfl rfl Try.func91 (by kernel_rfl) rfl #[.pointer (some ⟨g, 0, none⟩), .int .i64 a1] rfl (by (try simp only [xm_', xc_', xn_']); first | done | rfl | (simp only [xd_', xt_']; rfl)) ?_; (with_reducible refine (spec_l1Below.calls g s0_0 s0_1 s0_2 a1 t265 t266 t267 w0 _ ?side1 ?side2 A3.out).mono ?_); (case side1 => repeat (first | (with_reducible first | exact HI0.out | apply IsS157.alloc | apply IsS157.drewN | apply IsS157.drew | apply IsS157.set_1 | apply IsS157.set_2) | exact HI0.out)); (case side2 => repeat (first | (with_reducible first | exact HB.out | apply pa_' | apply pn_' | apply pd_' | refine pt_' ?_ (IsS157.ge HI0.out)) | exact HB.out)); rintro e w4 ⟨rfl, hi, hb, hk⟩; refine ⟨_, rfl, ?_⟩; have n0_ := sk_' (KeepBut.trans (by repeat (first | (with_reducible first | exact HK.out | apply KeepBut.set_ | apply keep_drewN | apply keep_drew | apply keep_alloc) | exact HK.out)) hk (.inl rfl)); have n1_ := sk_' (hb); have n2_ := sk_' (hi); clear HK; clear HB; clear HI0; have HK := n0_; have HB := n1_; have HI0 := n2_; clear n0_ n1_ n2_; (try clear hb); (try clear hb2); (try clear hk); (try clear hi)))
 go_ret
 exact ⟨by first | rfl | (simp [errW_none, errW_some] <;> rfl) | (simp [*, errW_none, errW_some] <;> rfl), by repeat (first | (with_reducible first | exact HI0.out | apply IsS157.alloc | apply IsS157.drewN | apply IsS157.drew | apply IsS157.set_1 | apply IsS157.set_2) | exact HI0.out), by repeat (first | (with_reducible first | exact HB.out | apply pa_' | apply pn_' | apply pd_' | refine pt_' ?_ (IsS157.ge HI0.out)) | exact HB.out), by repeat (first | (with_reducible first | exact HK.out | apply KeepBut.set_ | apply keep_drewN | apply keep_drew | apply keep_alloc) | exact HK.out)⟩
end Go.Proofs.Ytbhlmeghbfmgiaa.F
