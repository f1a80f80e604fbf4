/- FnExactPlayScore, part 4 of 7: texts of the claim, joined into one file. -/
import Derived.Test.YtiophiipmgpaeaaZFnExactPlayScore3
import Derived.Shelf.SlSortCmp.NoneTotal
import Derived.Shelf.Sort.Plain
import Derived.Shelf.Slices.CompactI
import Derived.Shelf.Slices.Delete
import Derived.Shelf.Spec.SlicesInsertGrow
import Derived.Shelf.Slices.In.SortNone
import Derived.Test.YtiophiipmgpaeaaProg

namespace Go.Proofs.Ytiophiipmgpaeaa.F
open Go.RowKit Go.Proofs.YtiophiipmgpaeaaW.PrintWords Go.Proofs.YtiophiipmgpaeaaW.PrintLast Go.Proofs.YtiophiipmgpaeaaW.PrintMore
attribute [local go_sem] max2_int min2_int max_two min_two max_three min_three max_four min_four
set_option linter.unusedVariables false
set_option linter.unusedSimpArgs false
def spec_l14Put.l0 : Nat → List (S109) → Int → Int → Int → Option ((List (S109)))
 | 0, _, _, _, _ => none
 | k + 1, x0, x5, x988000, x988001 => if x5 > 0 then (if 0 ≤ (wrap64 (x5 - 1)) then (if (wrap64 (x5 - 1)) < (x0.length : Int) then (if ((rd_T109 x0 (wrap64 (x5 - 1))).f0) > x988000 then (spec_l14Put.l0 k x0 (wrap64 (x5 - 1)) x988000 x988001) else (if ((rd_T109 x0 (wrap64 (x5 - 1))).f0) = x988000 then (if ((rd_T109 x0 (wrap64 (x5 - 1))).f1) > x988001 then (spec_l14Put.l0 k x0 (wrap64 (x5 - 1)) x988000 x988001) else ((some (([] : List (S109)) : List (S109))).bind fun y991 => (if 0 ≤ x5 then (if x5 ≤ (x0.length : Int) then ((some (x0.take (x5 : Int).toNat : List (S109))).bind fun y994 => (if y991.length + y994.length < 8796093022208 then ((some (y991 ++ y994 : List (S109))).bind fun y998 => ((some (([(⟨x988000, x988001⟩ : S109)] : List (S109)) : List (S109))).bind fun y1001 => (if y998.length + y1001.length < 8796093022208 then ((some (y998 ++ y1001 : List (S109))).bind fun y1004 => ((some (x0.drop (x5 : Int).toNat : List (S109))).bind fun y1007 => (if y1004.length + y1007.length < 8796093022208 then (some (y1004 ++ y1007)) else (none)))) else (none)))) else (none))) else (none)) else (none)))) else ((some (([] : List (S109)) : List (S109))).bind fun y1014 => (if 0 ≤ x5 then (if x5 ≤ (x0.length : Int) then ((some (x0.take (x5 : Int).toNat : List (S109))).bind fun y1017 => (if y1014.length + y1017.length < 8796093022208 then ((some (y1014 ++ y1017 : List (S109))).bind fun y1021 => ((some (([(⟨x988000, x988001⟩ : S109)] : List (S109)) : List (S109))).bind fun y1024 => (if y1021.length + y1024.length < 8796093022208 then ((some (y1021 ++ y1024 : List (S109))).bind fun y1027 => ((some (x0.drop (x5 : Int).toNat : List (S109))).bind fun y1030 => (if y1027.length + y1030.length < 8796093022208 then (some (y1027 ++ y1030)) else (none)))) else (none)))) else (none))) else (none)) else (none))))) else (none)) else (none)) else ((some (([] : List (S109)) : List (S109))).bind fun y1037 => (if 0 ≤ x5 then (if x5 ≤ (x0.length : Int) then ((some (x0.take (x5 : Int).toNat : List (S109))).bind fun y1040 => (if y1037.length + y1040.length < 8796093022208 then ((some (y1037 ++ y1040 : List (S109))).bind fun y1044 => ((some (([(⟨x988000, x988001⟩ : S109)] : List (S109)) : List (S109))).bind fun y1047 => (if y1044.length + y1047.length < 8796093022208 then ((some (y1044 ++ y1047 : List (S109))).bind fun y1050 => ((some (x0.drop (x5 : Int).toNat : List (S109))).bind fun y1053 => (if y1050.length + y1053.length < 8796093022208 then (some (y1050 ++ y1053)) else (none)))) else (none)))) else (none))) else (none)) else (none)))
def spec_l14Put.f (k : Nat) (l0 : List (S109)) (a1_0 : Int) (a1_1 : Int) : Option ((List (S109))) := spec_l14Put.l0 k l0 (l0.length : Int) a1_0 a1_1
def spec_l14Put.T4 : Bool × List (List Nat × List Nat) := (true, [([], []), ([], []), ([], []), ([1, 2], [1, 2]), ([0, 3], [0, 3]), ([], []), ([5], [5]), ([4, 6, 4], [4, 6]), ([], []), ([], []), ([8, 9], [8, 9]), ([7, 10, 7], [7, 10]), ([11, 11, 0, 1, 2, 3, 4, 5, 6, 7, 8, 9, 10, 11], [11])])
def spec_l14Put.B4 : List Nat := [0, 0, 0, 6, 15, 0, 32, 127, 0, 0, 768, 2047, 4095]
theorem spec_l14Put.tab4 : rtab .any (opsOf Try.f112 4) = spec_l14Put.T4 := by kernel_rfl
theorem spec_l14Put.bits4 : waitsOk spec_l14Put.T4.2 spec_l14Put.B4 = true := by kernel_rfl
set_option maxHeartbeats 8000000 in
set_option maxRecDepth 100000 in
theorem spec_l14Put.calls (k : Nat) (A0 : Option Addr) (c0 : Nat) (l0 : List (S109)) (a1_0 : Int) (a1_1 : Int) (r : List (S109)) (w : World) (hr0 : Kd.C k109 w A0 l0.length l0) (hc0 : l0.length ≤ c0) (h : spec_l14Put.f k l0 a1_0 a1_1 = some r) :
  Calls Try.prog 112 #[.slice A0 l0.length c0, .agg #[.int .i64 a1_0, .int .i64 a1_1]] w fun e w' => ∃ v0_ : Value, e = .returned (v0_) ∧ Kd.R k109 109 w' w.heap.size (fun _ => True) v0_ r ∧ Below w.heap.size w w' := by
 have hu109 := Try.underlying109
 have HR0 := sk_' hr0
 have HC0 := sk_' hc0
 clear hr0 hc0
 have HB := sk_' (Below.refl w.heap.size w)
 have H : (spec_l14Put.l0 k l0 (l0.length : Int) a1_0 a1_1) = some r := h
 clear h
 have H' := sk_' H
 clear H
 go_enter Try.func112, Try.ntmps112
 go_wp2_with (first | ((with_reducible refine gate_dst (N := 3) rfl ?_); refine box_event ?hg (N := 3) ?hd (cs := #[.int .i64 a1_0, .int .i64 a1_1]) (t := 109) ?hr ?_; (case hd => rfl); (case hg => rfl); (case hr => first | (go_simp; done) | (go_simp; rfl)); intro gb987 hg w3 hbox hb; have n0_ := sk_' (pp_' (bm HB) hb); have n1_ := sk_' (hbox); have n2_ := sk_' ((by rw [hg]; exact (ps_' (bm HB)) : w.heap.size ≤ gb987)); have n3_ := sk_' ((by rw [hg]; exact (ps_' (bm HB)) : w.heap.size ≤ gb987)); clear HB; have HB := n0_; have BK987 := n1_; have GW987 := n2_; have GE987 := n3_; clear n0_ n1_ n2_ n3_; clear hb hbox hg))
 go_loopg [5] k (fun kq v5 w' => ∃ (x5_1 : Int), v5 = .int .i64 x5_1 ∧ Aside0 (spec_l14Put.l0 kq l0 x5_1 a1_0 a1_1 = some r) ∧ Aside0 (kq ≤ k) ∧ Aside0 (w'.heap[gb987]? = some (.cells #[.int .i64 a1_0, .int .i64 a1_1] 109 (0, 0))) ∧ Aside0 (Below w.heap.size w w'))
 case atStart => exact ⟨((l0.length : Int)), rfl, H', ⟨Nat.le_refl _⟩, ⟨km BK987⟩, ⟨bm HB⟩⟩
 case round =>
  clear H'
  try clear c1
  try clear p2
  obtain ⟨x5_1, rfl, HA, HK1, BK987, HB⟩ := hrel
  cases gk with
  | zero => exact absurd HA.out (by simp [spec_l14Put.l0])
  | succ k1 =>
   have H := HA.out
   clear HA
   simp only [spec_l14Put.l0] at H
   by_cases c4 : x5_1 > 0
   ·
    rw [if_pos c4] at H
    have c4b0 : decide (0 < x5_1) = true := decide_eq_true c4
    clear c4
    obtain ⟨ji5, hji5⟩ : ∃ j_ : Int, (wrap64 (x5_1 - 1)) = j_ := ⟨_, rfl⟩
    replace H : (if 0 ≤ (ji5) then (if (ji5) < (l0.length : Int) then (if ((rd_T109 l0 (ji5)).f0) > a1_0 then (spec_l14Put.l0 k1 l0 ji5 a1_0 a1_1) else (if ((rd_T109 l0 (ji5)).f0) = a1_0 then (if ((rd_T109 l0 (ji5)).f1) > a1_1 then (spec_l14Put.l0 k1 l0 ji5 a1_0 a1_1) else ((some (([] : List (S109)) : List (S109))).bind fun y991 => (if 0 ≤ x5_1 then (if x5_1 ≤ (l0.length : Int) then ((some (l0.take (x5_1 : Int).toNat : List (S109))).bind fun y994 => (if y991.length + y994.length < 8796093022208 then ((some (y991 ++ y994 : List (S109))).bind fun y998 => ((some (([(⟨a1_0, a1_1⟩ : S109)] : List (S109)) : List (S109))).bind fun y1001 => (if y998.length + y1001.length < 8796093022208 then ((some (y998 ++ y1001 : List (S109))).bind fun y1004 => ((some (l0.drop (x5_1 : Int).toNat : List (S109))).bind fun y1007 => (if y1004.length + y1007.length < 8796093022208 then (some (y1004 ++ y1007)) else (none)))) else (none)))) else (none))) else (none)) else (none)))) else ((some (([] : List (S109)) : List (S109))).bind fun y1014 => (if 0 ≤ x5_1 then (if x5_1 ≤ (l0.length : Int) then ((some (l0.take (x5_1 : Int).toNat : List (S109))).bind fun y1017 => (if y1014.length + y1017.length < 8796093022208 then ((some (y1014 ++ y1017 : List (S109))).bind fun y1021 => ((some (([(⟨a1_0, a1_1⟩ : S109)] : List (S109)) : List (S109))).bind fun y1024 => (if y1021.length + y1024.length < 8796093022208 then ((some (y1021 ++ y1024 : List (S109))).bind fun y1027 => ((some (l0.drop (x5_1 : Int).toNat : List (S109))).bind fun y1030 => (if y1027.length + y1030.length < 8796093022208 then (some (y1027 ++ y1030)) else (none)))) else (none)))) else (none))) else (none)) else (none))))) else (none)) else (none)) = some r := by first | (rw [hji5] at H; exact H) | (simp only [hji5] at H ⊢; exact H)
    have hji5w : (IntKind.i64.wrap (x5_1 - 1)) = ji5 := (i64_w _).trans hji5
    by_cases c6 : 0 ≤ (ji5)
    ·
     rw [if_pos c6] at H
     have c6b0 : decide (0 ≤ (ji5)) = true := decide_eq_true c6
     clear c6
     by_cases c7 : (ji5) < (l0.length : Int)
     ·
      rw [if_pos c7] at H
      have c7b0 : decide ((ji5) < (l0.length : Int)) = true := decide_eq_true c7
      clear c7
      by_cases c8 : ((rd_T109 l0 (ji5)).f0) > a1_0
      ·
       rw [if_pos c8] at H
       have c8b0 : decide (a1_0 < ((rd_T109 l0 (ji5)).f0)) = true := decide_eq_true c8
       clear c8
       have H' := sk_' H
       clear H
       try go_wp2
       have n0_ := sk_' (kd_' BK987.out)
       have n1_ := sk_' (pd_' HB.out)
       clear BK987
       clear HB
       have BK987 := n0_
       have HB := n1_
       clear n0_ n1_
       have p988 : 0 ≤ ((ji5) : Int) := od_' (by first | (with_reducible assumption) | assumption)
       have q988 : (ji5) < (l0.length : Int) := od_' (by first | (with_reducible assumption) | assumption)
       obtain ⟨ad988, e988, hx988_0, hx988_1⟩ := at_T109 HR0.out (ji5) p988 q988
       have hw988_1 := hx988_1
       have hw988_0 := hx988_0
       cases e988
       replace hx988_0 := (HB.out.cell (bq_' w _ hx988_0)).trans hx988_0
       replace hx988_1 := (HB.out.cell (bq_' w _ hx988_1)).trans hx988_1
       replace p988 := eq_true p988
       replace q988 := eq_true q988
       have hq0_ : wr.cell? ⟨gb987, 0, none⟩ = some (.int .i64 a1_0) := (kc_' BK987.out 0).trans rfl
       have hq1_ : wr.cell? ⟨gb987, 1, none⟩ = some (.int .i64 a1_1) := (kc_' BK987.out 1).trans rfl
       have hq2_ : wr.cell? (ad988.add (((ji5)).toNat * 2)) = some (.int .i64 ((rd_T109 l0 (ji5)).f0)) := ((HB.out.cell (bq_' w _ hw988_0)).trans hw988_0)
       have hq3_ : wr.cell? ⟨(ad988.add (((ji5)).toNat * 2)).block, (ad988.add (((ji5)).toNat * 2)).off + 1, none⟩ = some (.int .i64 ((rd_T109 l0 (ji5)).f1)) := ((HB.out.cell (bq_' w _ hw988_1)).trans hw988_1)
       go_quiet (fail)
       have nBK987_ := sk_' (kn_' (w := wr) BK987.out nq)
       have nHB_ := sk_' (pn_' (W := wr) ⟨HB.out.os, HB.out.tape, HB.out.output, HB.out.size, HB.out.block⟩ nq)
       have nhx988_0_ : (wr.drewN nq).cell? _ = _ := hx988_0
       have nhx988_1_ : (wr.drewN nq).cell? _ = _ := hx988_1
       clear BK987 HB hx988_0 hx988_1 hq0_ hq1_ hq2_ hq3_
       have BK987 := nBK987_
       have HB := nHB_
       have hx988_0 := nhx988_0_
       have hx988_1 := nhx988_1_
       clear nBK987_ nHB_ nhx988_0_ nhx988_1_
       generalize wr.drewN nq = w9 at BK987 HB hx988_0 hx988_1 ⊢
       try go_wp2
       go_roundg k1
       case measure => have := HK1.out; omega
       case rel => exact ⟨(ji5), (by first | rfl | (simp; done) | (simp only [← hji5] <;> (first | rfl | simp)) | (simp [*]; done)), H', ⟨by have := HK1.out; omega⟩, ⟨km BK987⟩, ⟨bm HB⟩⟩
      rw [if_neg c8] at H
      have c8b0 : decide (a1_0 < ((rd_T109 l0 (ji5)).f0)) = false := decide_eq_false c8
      clear c8
      by_cases c10 : ((rd_T109 l0 (ji5)).f0) = a1_0
      ·
       rw [if_pos c10] at H
       have c10b0 : (((rd_T109 l0 (ji5)).f0) == a1_0) = true := beq_iff_eq.mpr c10
       have c10b1 : (((rd_T109 l0 (ji5)).f0) != a1_0) = false := bne_eq_false_iff_eq.mpr c10
       clear c10
       by_cases c11 : ((rd_T109 l0 (ji5)).f1) > a1_1
       ·
        rw [if_pos c11] at H
        have c11b0 : decide (a1_1 < ((rd_T109 l0 (ji5)).f1)) = true := decide_eq_true c11
        clear c11
        have H' := sk_' H
        clear H
        try go_wp2
        have n0_ := sk_' (kd_' BK987.out)
        have n1_ := sk_' (pd_' HB.out)
        clear BK987
        clear HB
        have BK987 := n0_
        have HB := n1_
        clear n0_ n1_
        have p988 : 0 ≤ ((ji5) : Int) := od_' (by first | (with_reducible assumption) | assumption)
        have q988 : (ji5) < (l0.length : Int) := od_' (by first | (with_reducible assumption) | assumption)
        obtain ⟨ad988, e988, hx988_0, hx988_1⟩ := at_T109 HR0.out (ji5) p988 q988
        have hw988_1 := hx988_1
        have hw988_0 := hx988_0
        cases e988
        replace hx988_0 := (HB.out.cell (bq_' w _ hx988_0)).trans hx988_0
        replace hx988_1 := (HB.out.cell (bq_' w _ hx988_1)).trans hx988_1
        replace p988 := eq_true p988
        replace q988 := eq_true q988
        have p989 : 0 ≤ ((ji5) : Int) := od_' (by first | (with_reducible assumption) | assumption)
        have q989 : (ji5) < (l0.length : Int) := od_' (by first | (with_reducible assumption) | assumption)
        obtain ⟨ad989, e989, hx989_0, hx989_1⟩ := at_T109 HR0.out (ji5) p989 q989
        have hw989_1 := hx989_1
        have hw989_0 := hx989_0
        obtain rfl : ad988 = ad989 := (by injection e989)
        replace hx989_0 := (HB.out.cell (bq_' w _ hx989_0)).trans hx989_0
        replace hx989_1 := (HB.out.cell (bq_' w _ hx989_1)).trans hx989_1
        replace p989 := eq_true p989
        replace q989 := eq_true q989
        have p990 : 0 ≤ ((ji5) : Int) := od_' (by first | (with_reducible assumption) | assumption)
        have q990 : (ji5) < (l0.length : Int) := od_' (by first | (with_reducible assumption) | assumption)
        obtain ⟨ad990, e990, hx990_0, hx990_1⟩ := at_T109 HR0.out (ji5) p990 q990
        have hw990_1 := hx990_1
        have hw990_0 := hx990_0
        obtain rfl : ad988 = ad990 := (by injection e990)
        replace hx990_0 := (HB.out.cell (bq_' w _ hx990_0)).trans hx990_0
        replace hx990_1 := (HB.out.cell (bq_' w _ hx990_1)).trans hx990_1
        replace p990 := eq_true p990
        replace q990 := eq_true q990
        have hq0_ : wr.cell? ⟨gb987, 0, none⟩ = some (.int .i64 a1_0) := (kc_' BK987.out 0).trans rfl
        have hq1_ : wr.cell? ⟨gb987, 1, none⟩ = some (.int .i64 a1_1) := (kc_' BK987.out 1).trans rfl
        have hq2_ : wr.cell? (ad988.add (((ji5)).toNat * 2)) = some (.int .i64 ((rd_T109 l0 (ji5)).f0)) := ((HB.out.cell (bq_' w _ hw988_0)).trans hw988_0)
        have hq3_ : wr.cell? ⟨(ad988.add (((ji5)).toNat * 2)).block, (ad988.add (((ji5)).toNat * 2)).off + 1, none⟩ = some (.int .i64 ((rd_T109 l0 (ji5)).f1)) := ((HB.out.cell (bq_' w _ hw988_1)).trans hw988_1)
        have hq4_ : wr.cell? (ad988.add (((ji5)).toNat * 2)) = some (.int .i64 ((rd_T109 l0 (ji5)).f0)) := ((HB.out.cell (bq_' w _ hw989_0)).trans hw989_0)
        have hq5_ : wr.cell? ⟨(ad988.add (((ji5)).toNat * 2)).block, (ad988.add (((ji5)).toNat * 2)).off + 1, none⟩ = some (.int .i64 ((rd_T109 l0 (ji5)).f1)) := ((HB.out.cell (bq_' w _ hw989_1)).trans hw989_1)
        have hq6_ : wr.cell? (ad988.add (((ji5)).toNat * 2)) = some (.int .i64 ((rd_T109 l0 (ji5)).f0)) := ((HB.out.cell (bq_' w _ hw990_0)).trans hw990_0)
        have hq7_ : wr.cell? ⟨(ad988.add (((ji5)).toNat * 2)).block, (ad988.add (((ji5)).toNat * 2)).off + 1, none⟩ = some (.int .i64 ((rd_T109 l0 (ji5)).f1)) := ((HB.out.cell (bq_' w _ hw990_1)).trans hw990_1)
        go_quiet (fail)
        have nBK987_ := sk_' (kn_' (w := wr) BK987.out nq)
        have nHB_ := sk_' (pn_' (W := wr) ⟨HB.out.os, HB.out.tape, HB.out.output, HB.out.size, HB.out.block⟩ nq)
        have nhx988_0_ : (wr.drewN nq).cell? _ = _ := hx988_0
        have nhx988_1_ : (wr.drewN nq).cell? _ = _ := hx988_1
        have nhx989_0_ : (wr.drewN nq).cell? _ = _ := hx989_0
        have nhx989_1_ : (wr.drewN nq).cell? _ = _ := hx989_1
        have nhx990_0_ : (wr.drewN nq).cell? _ = _ := hx990_0
        have nhx990_1_ : (wr.drewN nq).cell? _ = _ := hx990_1
        clear BK987 HB hx988_0 hx988_1 hx989_0 hx989_1 hx990_0 hx990_1 hq0_ hq1_ hq2_ hq3_ hq4_ hq5_ hq6_ hq7_
        have BK987 := nBK987_
        have HB := nHB_
        have hx988_0 := nhx988_0_
        have hx988_1 := nhx988_1_
        have hx989_0 := nhx989_0_
        have hx989_1 := nhx989_1_
        have hx990_0 := nhx990_0_
        have hx990_1 := nhx990_1_
        clear nBK987_ nHB_ nhx988_0_ nhx988_1_ nhx989_0_ nhx989_1_ nhx990_0_ nhx990_1_
        generalize wr.drewN nq = w12 at BK987 HB hx988_0 hx988_1 hx989_0 hx989_1 hx990_0 hx990_1 ⊢
        try go_wp2
        go_roundg k1
        case measure => have := HK1.out; omega
        case rel => exact ⟨(ji5), (by first | rfl | (simp; done) | (simp only [← hji5] <;> (first | rfl | simp)) | (simp [*]; done)), H', ⟨by have := HK1.out; omega⟩, ⟨km BK987⟩, ⟨bm HB⟩⟩
       rw [if_neg c11] at H
       have c11b0 : decide (a1_1 < ((rd_T109 l0 (ji5)).f1)) = false := decide_eq_false c11
       clear c11
       obtain ⟨y991, hy991⟩ : ∃ y_ : List (S109), y_ = (([] : List (S109))) := ⟨_, rfl⟩
       replace H : (if 0 ≤ x5_1 then (if x5_1 ≤ (l0.length : Int) then ((some (l0.take (x5_1 : Int).toNat : List (S109))).bind fun y994 => (if y991.length + y994.length < 8796093022208 then ((some (y991 ++ y994 : List (S109))).bind fun y998 => ((some (([(⟨a1_0, a1_1⟩ : S109)] : List (S109)) : List (S109))).bind fun y1001 => (if y998.length + y1001.length < 8796093022208 then ((some (y998 ++ y1001 : List (S109))).bind fun y1004 => ((some (l0.drop (x5_1 : Int).toNat : List (S109))).bind fun y1007 => (if y1004.length + y1007.length < 8796093022208 then (some (y1004 ++ y1007)) else (none)))) else (none)))) else (none))) else (none)) else (none)) = some r := by first | (rw [hy991]; with_reducible exact H) | (have H2_ := (Option.bind_some _ _).symm.trans H; rw [hy991]; with_reducible exact H2_) | (have H2_ := (Option.bind_some _ _).symm.trans H; with_reducible exact H2_) | with_reducible exact H | (rw [hy991]; exact H) | exact H
       have Ny991 := sk_' hy991
       clear hy991
       by_cases c13 : 0 ≤ x5_1
       ·
        rw [if_pos c13] at H
        have c13b0 := eq_true c13
        have c13b1 : decide (0 ≤ x5_1) = true := decide_eq_true c13
        clear c13
        by_cases c14 : x5_1 ≤ (l0.length : Int)
        ·
         rw [if_pos c14] at H
         have c14b0 := eq_true c14
         have c14b1 : decide (x5_1 ≤ (l0.length : Int)) = true := decide_eq_true c14
         clear c14
         obtain ⟨y994, hy994⟩ : ∃ y_ : List (S109), y_ = (l0.take (x5_1 : Int).toNat) := ⟨_, rfl⟩
         replace H : (if y991.length + y994.length < 8796093022208 then ((some (y991 ++ y994 : List (S109))).bind fun y998 => ((some (([(⟨a1_0, a1_1⟩ : S109)] : List (S109)) : List (S109))).bind fun y1001 => (if y998.length + y1001.length < 8796093022208 then ((some (y998 ++ y1001 : List (S109))).bind fun y1004 => ((some (l0.drop (x5_1 : Int).toNat : List (S109))).bind fun y1007 => (if y1004.length + y1007.length < 8796093022208 then (some (y1004 ++ y1007)) else (none)))) else (none)))) else (none)) = some r := by first | (rw [hy994]; with_reducible exact H) | (have H2_ := (Option.bind_some _ _).symm.trans H; rw [hy994]; with_reducible exact H2_) | (have H2_ := (Option.bind_some _ _).symm.trans H; with_reducible exact H2_) | with_reducible exact H | (rw [hy994]; exact H) | exact H
         have Ny994 := sk_' hy994
         clear hy994
         by_cases c15 : y991.length + y994.length < 8796093022208
         ·
          rw [if_pos c15] at H
          have LMc15 := sk_' c15
          clear c15
          obtain ⟨y998, hy998⟩ : ∃ y_ : List (S109), y_ = (y991 ++ y994) := ⟨_, rfl⟩
          replace H : ((some (([(⟨a1_0, a1_1⟩ : S109)] : List (S109)) : List (S109))).bind fun y1001 => (if y998.length + y1001.length < 8796093022208 then ((some (y998 ++ y1001 : List (S109))).bind fun y1004 => ((some (l0.drop (x5_1 : Int).toNat : List (S109))).bind fun y1007 => (if y1004.length + y1007.length < 8796093022208 then (some (y1004 ++ y1007)) else (none)))) else (none))) = some r := by first | (rw [hy998]; with_reducible exact H) | (have H2_ := (Option.bind_some _ _).symm.trans H; rw [hy998]; with_reducible exact H2_) | (have H2_ := (Option.bind_some _ _).symm.trans H; with_reducible exact H2_) | with_reducible exact H | (rw [hy998]; exact H) | exact H
          have Ny998 := sk_' hy998
          clear hy998
          obtain ⟨y1001, hy1001⟩ : ∃ y_ : List (S109), y_ = (([(⟨a1_0, a1_1⟩ : S109)] : List (S109))) := ⟨_, rfl⟩
          replace H : (if y998.length + y1001.length < 8796093022208 then ((some (y998 ++ y1001 : List (S109))).bind fun y1004 => ((some (l0.drop (x5_1 : Int).toNat : List (S109))).bind fun y1007 => (if y1004.length + y1007.length < 8796093022208 then (some (y1004 ++ y1007)) else (none)))) else (none)) = some r := by first | (rw [hy1001]; with_reducible exact H) | (have H2_ := (Option.bind_some _ _).symm.trans H; rw [hy1001]; with_reducible exact H2_) | (have H2_ := (Option.bind_some _ _).symm.trans H; with_reducible exact H2_) | with_reducible exact H | (rw [hy1001]; exact H) | exact H
          have Ny1001 := sk_' hy1001
          clear hy1001
          by_cases c16 : y998.length + y1001.length < 8796093022208
          ·
           rw [if_pos c16] at H
           have LMc16 := sk_' c16
           clear c16
           obtain ⟨y1004, hy1004⟩ : ∃ y_ : List (S109), y_ = (y998 ++ y1001) := ⟨_, rfl⟩
           replace H : ((some (l0.drop (x5_1 : Int).toNat : List (S109))).bind fun y1007 => (if y1004.length + y1007.length < 8796093022208 then (some (y1004 ++ y1007)) else (none))) = some r := by first | (rw [hy1004]; with_reducible exact H) | (have H2_ := (Option.bind_some _ _).symm.trans H; rw [hy1004]; with_reducible exact H2_) | (have H2_ := (Option.bind_some _ _).symm.trans H; with_reducible exact H2_) | with_reducible exact H | (rw [hy1004]; exact H) | exact H
           have Ny1004 := sk_' hy1004
           clear hy1004
           have c17b0 := eq_true (od_' (by first | (with_reducible assumption) | assumption) : 0 ≤ x5_1)
           have c18b0 := eq_true (od_' (by first | (with_reducible assumption) | assumption) : x5_1 ≤ (l0.length : Int))
           obtain ⟨y1007, hy1007⟩ : ∃ y_ : List (S109), y_ = (l0.drop (x5_1 : Int).toNat) := ⟨_, rfl⟩
           replace H : (if y1004.length + y1007.length < 8796093022208 then (some (y1004 ++ y1007)) else (none)) = some r := by first | (rw [hy1007]; with_reducible exact H) | (have H2_ := (Option.bind_some _ _).symm.trans H; rw [hy1007]; with_reducible exact H2_) | (have H2_ := (Option.bind_some _ _).symm.trans H; with_reducible exact H2_) | with_reducible exact H | (rw [hy1007]; exact H) | exact H
           have Ny1007 := sk_' hy1007
           clear hy1007
           by_cases c19 : y1004.length + y1007.length < 8796093022208
           ·
            rw [if_pos c19] at H
            have LMc19 := sk_' c19
            clear c19
            obtain ⟨y1011, hy1011⟩ : ∃ y_ : List (S109), y_ = (y1004 ++ y1007) := ⟨_, rfl⟩
            replace H : (some y1011) = some r := by first | (rw [hy1011]; with_reducible exact H) | (have H2_ := (Option.bind_some _ _).symm.trans H; rw [hy1011]; with_reducible exact H2_) | (have H2_ := (Option.bind_some _ _).symm.trans H; with_reducible exact H2_) | with_reducible exact H | (rw [hy1011]; exact H) | exact H
            have Ny1011 := sk_' hy1011
            clear hy1011
            obtain rfl := Option.some.inj H
            try go_wp2
            have n0_ := sk_' (kd_' BK987.out)
            have n1_ := sk_' (pd_' HB.out)
            clear BK987
            clear HB
            have BK987 := n0_
            have HB := n1_
            clear n0_ n1_
            have p988 : 0 ≤ ((ji5) : Int) := od_' (by first | (with_reducible assumption) | assumption)
            have q988 : (ji5) < (l0.length : Int) := od_' (by first | (with_reducible assumption) | assumption)
            obtain ⟨ad988, e988, hx988_0, hx988_1⟩ := at_T109 HR0.out (ji5) p988 q988
            have hw988_1 := hx988_1
            have hw988_0 := hx988_0
            cases e988
            replace hx988_0 := (HB.out.cell (bq_' w _ hx988_0)).trans hx988_0
            replace hx988_1 := (HB.out.cell (bq_' w _ hx988_1)).trans hx988_1
            replace p988 := eq_true p988
            replace q988 := eq_true q988
            have p989 : 0 ≤ ((ji5) : Int) := od_' (by first | (with_reducible assumption) | assumption)
            have q989 : (ji5) < (l0.length : Int) := od_' (by first | (with_reducible assumption) | assumption)
            obtain ⟨ad989, e989, hx989_0, hx989_1⟩ := at_T109 HR0.out (ji5) p989 q989
            have hw989_1 := hx989_1
            have hw989_0 := hx989_0
            obtain rfl : ad988 = ad989 := (by injection e989)
            replace hx989_0 := (HB.out.cell (bq_' w _ hx989_0)).trans hx989_0
            replace hx989_1 := (HB.out.cell (bq_' w _ hx989_1)).trans hx989_1
            replace p989 := eq_true p989
            replace q989 := eq_true q989
            have p990 : 0 ≤ ((ji5) : Int) := od_' (by first | (with_reducible assumption) | assumption)
            have q990 : (ji5) < (l0.length : Int) := od_' (by first | (with_reducible assumption) | assumption)
            obtain ⟨ad990, e990, hx990_0, hx990_1⟩ := at_T109 HR0.out (ji5) p990 q990
            have hw990_1 := hx990_1
            have hw990_0 := hx990_0
            obtain rfl : ad988 = ad990 := (by injection e990)
            replace hx990_0 := (HB.out.cell (bq_' w _ hx990_0)).trans hx990_0
            replace hx990_1 := (HB.out.cell (bq_' w _ hx990_1)).trans hx990_1
            replace p990 := eq_true p990
            replace q990 := eq_true q990
            have hq0_ : wr.cell? ⟨gb987, 0, none⟩ = some (.int .i64 a1_0) := (kc_' BK987.out 0).trans rfl
            have hq1_ : wr.cell? ⟨gb987, 1, none⟩ = some (.int .i64 a1_1) := (kc_' BK987.out 1).trans rfl
            have hq2_ : wr.cell? (ad988.add (((ji5)).toNat * 2)) = some (.int .i64 ((rd_T109 l0 (ji5)).f0)) := ((HB.out.cell (bq_' w _ hw988_0)).trans hw988_0)
            have hq3_ : wr.cell? ⟨(ad988.add (((ji5)).toNat * 2)).block, (ad988.add (((ji5)).toNat * 2)).off + 1, none⟩ = some (.int .i64 ((rd_T109 l0 (ji5)).f1)) := ((HB.out.cell (bq_' w _ hw988_1)).trans hw988_1)
            have hq4_ : wr.cell? (ad988.add (((ji5)).toNat * 2)) = some (.int .i64 ((rd_T109 l0 (ji5)).f0)) := ((HB.out.cell (bq_' w _ hw989_0)).trans hw989_0)
            have hq5_ : wr.cell? ⟨(ad988.add (((ji5)).toNat * 2)).block, (ad988.add (((ji5)).toNat * 2)).off + 1, none⟩ = some (.int .i64 ((rd_T109 l0 (ji5)).f1)) := ((HB.out.cell (bq_' w _ hw989_1)).trans hw989_1)
            have hq6_ : wr.cell? (ad988.add (((ji5)).toNat * 2)) = some (.int .i64 ((rd_T109 l0 (ji5)).f0)) := ((HB.out.cell (bq_' w _ hw990_0)).trans hw990_0)
            have hq7_ : wr.cell? ⟨(ad988.add (((ji5)).toNat * 2)).block, (ad988.add (((ji5)).toNat * 2)).off + 1, none⟩ = some (.int .i64 ((rd_T109 l0 (ji5)).f1)) := ((HB.out.cell (bq_' w _ hw990_1)).trans hw990_1)
            go_quiet (fail)
            have nBK987_ := sk_' (kn_' (w := wr) BK987.out nq)
            have nHB_ := sk_' (pn_' (W := wr) ⟨HB.out.os, HB.out.tape, HB.out.output, HB.out.size, HB.out.block⟩ nq)
            have nhx988_0_ : (wr.drewN nq).cell? _ = _ := hx988_0
            have nhx988_1_ : (wr.drewN nq).cell? _ = _ := hx988_1
            have nhx989_0_ : (wr.drewN nq).cell? _ = _ := hx989_0
            have nhx989_1_ : (wr.drewN nq).cell? _ = _ := hx989_1
            have nhx990_0_ : (wr.drewN nq).cell? _ = _ := hx990_0
            have nhx990_1_ : (wr.drewN nq).cell? _ = _ := hx990_1
            clear BK987 HB hx988_0 hx988_1 hx989_0 hx989_1 hx990_0 hx990_1 hq0_ hq1_ hq2_ hq3_ hq4_ hq5_ hq6_ hq7_
            have BK987 := nBK987_
            have HB := nHB_
            have hx988_0 := nhx988_0_
            have hx988_1 := nhx988_1_
            have hx989_0 := nhx989_0_
            have hx989_1 := nhx989_1_
            have hx990_0 := nhx990_0_
            have hx990_1 := nhx990_1_
            clear nBK987_ nHB_ nhx988_0_ nhx988_1_ nhx989_0_ nhx989_1_ nhx990_0_ nhx990_1_
            generalize wr.drewN nq = w20 at BK987 HB hx988_0 hx988_1 hx989_0 hx989_1 hx990_0 hx990_1 ⊢
            try go_wp2
            have n0_ := sk_' (kd_' BK987.out)
            have n1_ := sk_' (pd_' HB.out)
            clear BK987
            clear HB
            have BK987 := n0_
            have HB := n1_
            clear n0_ n1_
            have q22 : (x5_1 : Int) ≤ ((l0.length : Int) : Int) := od_' (by first | (with_reducible assumption) | assumption)
            obtain ⟨i022, hi022, _, hsz22, _⟩ := info_parts info109
            have hroom22 : l0.length ≤ c0 := HC0.out
            have hC22 : Kd.C k109 _ (some ad988) l0.length l0 := HR0.out
            have hcut22 := cut_to (P := Try.prog) 37 109 .i64 Try.underlying37 hi022 (some ad988) l0.length c0 x5_1 (od_' (by first | (with_reducible assumption) | assumption)) q22 hroom22
            have hr22 := Kd.C_take (m := (x5_1 : Int).toNat) hC22 (by omega)
            have hy22 : y994.length = (x5_1 : Int).toNat := (by rw [Ny994.out, xt_']; omega)
            rw [← Ny994.out] at hr22
            rw [← hy22] at hcut22
            have HR997 := sk_' hr22
            have HC997 := sk_' (show y994.length ≤ c0 from by omega)
            clear hr22 hC22 hroom22 hi022 hsz22
            have KY22 := sk_' hy22
            clear hy22
            replace q22 := eq_true q22
            have q23 : (x5_1 : Int) ≤ ((l0.length : Int) : Int) := od_' (by first | (with_reducible assumption) | assumption)
            obtain ⟨i023, hi023, _, hsz23, _⟩ := info_parts info109
            have hroom23 : l0.length ≤ c0 := HC0.out
            have hC23 : Kd.C k109 _ (some ad988) l0.length l0 := HR0.out
            have q023 : (0 : Int) ≤ (x5_1 : Int) := od_' (by first | (with_reducible assumption) | assumption)
            have hcut23 := cut_from (P := Try.prog) 37 109 .i64 Try.underlying37 hi023 2 hsz23 (some ad988) l0.length c0 x5_1 q023 q23
            have hr23 := Kd.C_drop (m := (x5_1 : Int).toNat) (c := c0) hC23 (by omega) hroom23
            obtain ⟨A23, hA23⟩ : ∃ A1, A1 = (if c0 = (x5_1 : Int).toNat then (some ad988) else ((some ad988) : Option Addr).map (·.add ((x5_1 : Int).toNat * 2))) := ⟨_, rfl⟩
            obtain ⟨c23, hc23⟩ : ∃ c1, c1 = c0 - (x5_1 : Int).toNat := ⟨_, rfl⟩
            have hy23 : y1007.length = l0.length - (x5_1 : Int).toNat := (by rw [Ny1007.out, xd_'] <;> omega)
            rw [show (l0).drop (x5_1 : Int).toNat = y1007 from Ny1007.out.symm] at hr23
            replace hr23 : Kd.C k109 _ A23 y1007.length y1007 := (by rw [hA23]; exact hr23)
            rw [← hy23, ← hA23, ← hc23] at hcut23
            have HR1010 := sk_' hr23
            have HC1010 := sk_' (show y1007.length ≤ c23 from by rw [hy23, hc23]; exact Nat.sub_le_sub_right hroom23 _)
            clear hr23 hC23 hroom23 hi023 hsz23 hc23
            have KY23 := sk_' hy23
            have KA23 := sk_' hA23
            clear hy23 hA23
            replace q23 := eq_true q23
            refine start_ (n := 13) (S := fun w' => w'.cell? ⟨gb987, 0, none⟩ = some (.int .i64 a1_0) ∧ w'.cell? ⟨gb987, 1, none⟩ = some (.int .i64 a1_1)) (ds := []) #[false, false, false, false, false, false, false, false, false, false, false, false, false] (by kernel_rfl) rfl rfl ⟨(kc_' BK987.out 0).trans rfl, (kc_' BK987.out 1).trans rfl⟩ (fun hHeld => ?_); refine with_tabW spec_l14Put.tab4 spec_l14Put.bits4 (fun HT_ HW_ => ?_)
            generalize w20.drew = w21 at BK987 HB HR1010 HR997 hHeld ⊢
            refine pure_ (i := 1) (N := some 46) (v := ?_) (a' := ?_) #[false, true, false, false, false, false, false, false, false, false, false, false, false] rfl rfl (any_of HT_.out (by kernel_rfl)) (fun _ _ _ h => h) (Or.inl ⟨by rfl, ?_⟩) ?_ ?_
            rotate_left
            ·
             intro w'
             go_simp
             with_reducible rfl
            rotate_left
            ·
             simp only [Act.put, sa_', sz_', sc_', i64_w, i32_w]
             rfl
            refine pure_ (i := 2) (N := some 47) (v := ?_) (a' := ?_) #[false, true, true, false, false, false, false, false, false, false, false, false, false] rfl rfl (any_of HT_.out (by kernel_rfl)) (fun _ _ _ h => h) (Or.inl ⟨by rfl, ?_⟩) ?_ ?_
            rotate_left
            ·
             intro w'
             go_simp
             with_reducible rfl
            rotate_left
            ·
             simp only [Act.put, sa_', sz_', sc_', i64_w, i32_w]
             rfl
            refine pure_ (i := 3) (N := some 48) (v := ?_) (a' := ?_) #[false, true, true, true, false, false, false, false, false, false, false, false, false] rfl rfl (any_of HT_.out (by kernel_rfl)) (fun _ _ _ h => h) (Or.inl ⟨by rfl, ?_⟩) ?_ ?_
            rotate_left
            ·
             intro w'
             go_simp
             with_reducible rfl
            rotate_left
            ·
             simp only [Act.put, sa_', sz_', sc_', i64_w, i32_w]
             rfl
            refine pure_ (i := 8) (N := some 53) (v := ?_) (a' := ?_) #[false, true, true, true, false, false, false, false, true, false, false, false, false] rfl rfl (any_of HT_.out (by kernel_rfl)) (fun _ _ _ h => h) (Or.inl ⟨by rfl, ?_⟩) ?_ ?_
            rotate_left
            ·
             intro w'
             go_simp
             with_reducible rfl
            rotate_left
            ·
             simp only [Act.put, sa_', sz_', sc_', i64_w, i32_w]
             rfl
            refine pure_ (i := 9) (N := some 54) (v := ?_) (a' := ?_) #[false, true, true, true, false, false, false, false, true, true, false, false, false] rfl rfl (any_of HT_.out (by kernel_rfl)) (fun _ _ _ h => h) (Or.inl ⟨by rfl, ?_⟩) ?_ ?_
            rotate_left
            ·
             intro w'
             go_simp
             with_reducible rfl
            rotate_left
            ·
             simp only [Act.put, sa_', sz_', sc_', i64_w, i32_w]
             rfl
            refine pure_ (i := 10) (N := some 55) (v := ?_) (a' := ?_) #[false, true, true, true, false, false, false, false, true, true, true, false, false] rfl rfl (any_of HT_.out (by kernel_rfl)) (fun _ _ _ h => h) (Or.inl ⟨by rfl, ?_⟩) ?_ ?_
            rotate_left
            ·
             intro w'
             go_simp
             with_reducible rfl
            rotate_left
            ·
             simp only [Act.put, sa_', sz_', sc_', i64_w, i32_w]
             rfl
            refine take_ (i := 5) (N := some 50) (v := ?_) (a' := ?_) #[false, true, true, true, false, true, false, false, true, true, true, false, false] rfl rfl (take_ofW HT_.out HW_.out (by kernel_rfl)) (fun _ _ _ h => h) (Or.inl ⟨by rfl, ?_⟩) hHeld ?_ ?_
            rotate_left
            ·
             rintro w' ⟨s0, s1⟩
             go_simp
             with_reducible rfl
            rotate_left
            ·
             simp only [Act.put, sa_', sz_', sc_', i64_w, i32_w]
             rfl
            refine join_ (σ := Value × Value × Value) 3 #[true, true, true, true, true, true, true, false, true, true, true, false, false] (fun s_ => [(45, s_.1), (49, s_.2.1), (51, s_.2.2)]) (fun s_ w' => (w'.cell? ⟨gb987, 0, none⟩ = some (.int .i64 a1_0) ∧ w'.cell? ⟨gb987, 1, none⟩ = some (.int .i64 a1_1)) ∧ (Kd.R k109 109 w' w.heap.size (fun k_ => some k_ ≠ (s_.2.2 : Value).ownBlock ∧ k_ ≠ gb987) s_.2.1 y998) ∧ (Kd.R k109 109 w' w.heap.size (fun k_ => some k_ ≠ (s_.2.1 : Value).ownBlock ∧ k_ ≠ gb987) s_.2.2 y1001) ∧ (w'.heap[gb987]? = some (.cells #[.int .i64 a1_0, .int .i64 a1_1] 109 (0, 0))) ∧ (Below w.heap.size w w')) ?_ ?_
            rotate_left
            ·
             intro hCont
             refine two_ (i := 0) (j := 6) (Ni := some 45) (Nj := some 51) #[true, true, true, true, false, true, false, false, true, true, true, false, false] #[false, true, true, true, false, true, true, false, true, true, true, false, false] rfl rfl rfl rfl (two_of HT_.out (by kernel_rfl)) (by decide) (by decide) (fun K hK => ?_) (fun K hK => ?_)
             ·
              skip
              refine Kd.R_lit_step k109 _ 109 ?hg (N := 45) ?hd (xs := ([] : List (S109))) (inner := []) (ok := fun _ => True) (okp := fun _ => True) ?hr ?hp (fun _ hk => hk) trivial (Below.refl _ _) (Nat.le_refl _) (by simp) ?_; (case hd => rfl); (case hg => rfl); (case hr => first | (go_simp; done) | (go_simp; rfl)); (case hp => exact (Reps.none _ _))
              intro v992 w24 ho25 hb hg_ hnew_
              clear hg_ hnew_
              (first | rw [← Ny991.out] at ho25 | (simp only [Int.reduceToNat] at ho25; rw [← Ny991.out] at ho25))
              have n0_ := sk_' (Kd.R_lower (Kd.R_newB ho25 (g := gb987) (o := .cells #[.int .i64 a1_0, .int .i64 a1_1] 109 (0, 0)) (km BK987)) (ps_' (bm HB)))
              have n1_ := sk_' (blk_below (g := gb987) (o := .cells #[.int .i64 a1_0, .int .i64 a1_1] 109 (0, 0)) (km BK987) hb)
              have n2_ := sk_' (pp_' (bm HB) hb)
              clear BK987
              clear HB
              have HO993 := n0_
              have BK987 := n1_
              have HB := n2_
              clear n0_ n1_ n2_
              clear hb ho25
              refine hK.out _ _ ⟨(kc_' BK987.out 0).trans rfl, (kc_' BK987.out 1).trans rfl⟩ (fun hHeld => ?_)
              clear hK K
              refine norm_ (a' := ?_) ?_ ?_
              rotate_left
              ·
               show Act.put _ (some 45) _ = _
               simp only [Act.put, sa_', sz_', sc_', i64_w, i32_w]
               rfl
              refine two_ (i := 4) (j := 6) (Ni := some 49) (Nj := some 51) #[true, true, true, true, true, true, false, false, true, true, true, false, false] #[true, true, true, true, false, true, true, false, true, true, true, false, false] rfl rfl rfl rfl (two_of HT_.out (by kernel_rfl)) (by decide) (by decide) (fun K hK => ?_) (fun K hK => ?_)
              ·
               skip
               refine Kd.R_append_rows_step k109 (w0 := w) w.heap.size (by rfl) (.tmp 45) (.tmp 48) 37 109 (.agg #[(.int .i64 0), (.int .i64 0)]) 16 rfl Try.underlying37 info109 rfl (by decide) (by omega) v992 y991 y994 _ _ _ (fun k_ => k_ ≠ gb987) (fun _ => False) rfl rfl ?aO ?aR (fun _ _ h => h) (fun _ h => h.elim) ?aF ?aB ?aS ?aL ?_
               (case aR => repeat (first | exact (Kd.C_below HR997.out HB.out) | (with_reducible refine xg_' ?_ _) | (with_reducible refine xe_' ?_ _) | (with_reducible refine xf_' ?_)))
               (case aB => exact (bm HB))
               (case aF => exact (fun k_ hk => Kd.freshB (g := gb987) (o := .cells #[.int .i64 a1_0, .int .i64 a1_1] 109 (0, 0)) (km BK987) k_ hk))
               (case aO => exact (by (with_reducible repeat (first | apply ra_' | apply rn_' | apply rd1_')); exact xi_' HO993.out (fun _ hk => hk.2)))
               (case aS => exact (ps_' (bm HB)))
               (case aL => have := LMc15.out; omega)
               intro v999 w26 ho hb hg hat
               rw [← Ny998.out] at ho
               have n0_ := sk_' (blk_grown (g := gb987) (o := .cells #[.int .i64 a1_0, .int .i64 a1_1] 109 (0, 0)) (km BK987) hg (Kd.R_away HO993.out (fun _ hk => hk.2)))
               have n1_ := sk_' (hb)
               have n2_ := sk_' (ho)
               clear BK987
               clear HB
               clear HO993
               have BK987 := n0_
               have HB := n1_
               have HO1000 := n2_
               clear n0_ n1_ n2_
               clear ho hb hg hat
               refine hK.out _ _ ⟨(kc_' BK987.out 0).trans rfl, (kc_' BK987.out 1).trans rfl⟩ (fun hHeld => ?_)
               clear hK K
               refine norm_ (a' := ?_) ?_ ?_
               rotate_left
               ·
                show Act.put _ (some 49) _ = _
                simp only [Act.put, sa_', sz_', sc_', i64_w, i32_w]
                rfl
               refine one_ (i := 6) (N := some 51) #[true, true, true, true, true, true, true, false, true, true, true, false, false] rfl rfl (one_of HT_.out (by kernel_rfl)) (by decide) (fun K hK => ?_)
               refine Kd.R_lit_step k109 _ 109 ?hg (N := 51) ?hd (xs := ([(⟨a1_0, a1_1⟩ : S109)] : List (S109))) (inner := [.int .i64 a1_0, .int .i64 a1_1]) (ok := fun _ => True) (okp := fun _ => True) ?hr ?hp (fun _ hk => hk) trivial (Below.refl _ _) (Nat.le_refl _) (by simp) ?_; (case hd => rfl); (case hg => rfl); (case hr => first | (go_simp; done) | (go_simp; rfl)); (case hp => exact (Reps.c2 (show Kd.M k109 _ _ _ (⟨a1_0, a1_1⟩ : S109) [.int .i64 a1_0, .int .i64 a1_1] from (k109_mkM _ _ _ (⟨a1_0, a1_1⟩ : S109) )) (Reps.none _ _)))
               intro v1002 w27 ho28 hb hg_ hnew_
               clear hg_ hnew_
               (first | rw [← Ny1001.out] at ho28 | (simp only [Int.reduceToNat] at ho28; rw [← Ny1001.out] at ho28))
               have n0_ := sk_' (Kd.R_elder' (rm HO1000) (Kd.R_base ho28) hb)
               have n1_ := sk_' (Kd.R_lower (Kd.R_newB (Kd.R_new' ho28 (Kd.R_lt (rm HO1000))) (g := gb987) (o := .cells #[.int .i64 a1_0, .int .i64 a1_1] 109 (0, 0)) (km BK987)) (ps_' (bm HB)))
               have n2_ := sk_' (blk_below (g := gb987) (o := .cells #[.int .i64 a1_0, .int .i64 a1_1] 109 (0, 0)) (km BK987) hb)
               have n3_ := sk_' (pp_' (bm HB) hb)
               clear HO1000
               clear BK987
               clear HB
               have HO1000 := n0_
               have HO1003 := n1_
               have BK987 := n2_
               have HB := n3_
               clear n0_ n1_ n2_ n3_
               clear hb ho28
               refine hK.out _ _ ⟨(kc_' BK987.out 0).trans rfl, (kc_' BK987.out 1).trans rfl⟩ (fun hHeld => ?_)
               clear hK K
               refine norm_ (a' := ?_) ?_ ?_
               rotate_left
               ·
                show Act.put _ (some 51) _ = _
                simp only [Act.put, sa_', sz_', sc_', i64_w, i32_w]
                rfl
               exact norm_ (by simp only [putAll, Act.put, sa_', sz_', sc_']) (hCont (v992, v999, v1002) _ ⟨hHeld, (by (with_reducible repeat (first | apply ra_' | apply rn_' | apply rd1_')); exact xi_' HO1000.out (fun _ hk => ⟨hk.2, hk.1⟩)), (by (with_reducible repeat (first | apply ra_' | apply rn_' | apply rd1_')); exact xi_' HO1003.out (fun _ hk => ⟨hk.1.2, hk.2⟩)), (km BK987), (bm HB)⟩)
              skip
              refine Kd.R_lit_step k109 _ 109 ?hg (N := 51) ?hd (xs := ([(⟨a1_0, a1_1⟩ : S109)] : List (S109))) (inner := [.int .i64 a1_0, .int .i64 a1_1]) (ok := fun _ => True) (okp := fun _ => True) ?hr ?hp (fun _ hk => hk) trivial (Below.refl _ _) (Nat.le_refl _) (by simp) ?_; (case hd => rfl); (case hg => rfl); (case hr => first | (go_simp; done) | (go_simp; rfl)); (case hp => exact (Reps.c2 (show Kd.M k109 _ _ _ (⟨a1_0, a1_1⟩ : S109) [.int .i64 a1_0, .int .i64 a1_1] from (k109_mkM _ _ _ (⟨a1_0, a1_1⟩ : S109) )) (Reps.none _ _)))
              intro v1002 w26 ho27 hb hg_ hnew_
              clear hg_ hnew_
              (first | rw [← Ny1001.out] at ho27 | (simp only [Int.reduceToNat] at ho27; rw [← Ny1001.out] at ho27))
              have n0_ := sk_' (Kd.R_elder' (rm HO993) (Kd.R_base ho27) hb)
              have n1_ := sk_' (Kd.R_lower (Kd.R_newB (Kd.R_new' ho27 (Kd.R_lt (rm HO993))) (g := gb987) (o := .cells #[.int .i64 a1_0, .int .i64 a1_1] 109 (0, 0)) (km BK987)) (ps_' (bm HB)))
              have n2_ := sk_' (blk_below (g := gb987) (o := .cells #[.int .i64 a1_0, .int .i64 a1_1] 109 (0, 0)) (km BK987) hb)
              have n3_ := sk_' (pp_' (bm HB) hb)
              clear HO993
              clear BK987
              clear HB
              have HO993 := n0_
              have HO1003 := n1_
              have BK987 := n2_
              have HB := n3_
              clear n0_ n1_ n2_ n3_
              clear hb ho27
              refine hK.out _ _ ⟨(kc_' BK987.out 0).trans rfl, (kc_' BK987.out 1).trans rfl⟩ (fun hHeld => ?_)
              clear hK K
              refine norm_ (a' := ?_) ?_ ?_
              rotate_left
              ·
               show Act.put _ (some 51) _ = _
               simp only [Act.put, sa_', sz_', sc_', i64_w, i32_w]
               rfl
              refine one_ (i := 4) (N := some 49) #[true, true, true, true, true, true, true, false, true, true, true, false, false] rfl rfl (one_of HT_.out (by kernel_rfl)) (by decide) (fun K hK => ?_)
              refine Kd.R_append_rows_step k109 (w0 := w) w.heap.size (by rfl) (.tmp 45) (.tmp 48) 37 109 (.agg #[(.int .i64 0), (.int .i64 0)]) 16 rfl Try.underlying37 info109 rfl (by decide) (by omega) v992 y991 y994 _ _ _ (fun k_ => some k_ ≠ (v1002 : Value).ownBlock ∧ k_ ≠ gb987) (fun _ => False) rfl rfl ?aO ?aR (fun _ _ h => h) (fun _ h => h.elim) ?aF ?aB ?aS ?aL ?_
              (case aR => repeat (first | exact (Kd.C_below HR997.out HB.out) | (with_reducible refine xg_' ?_ _) | (with_reducible refine xe_' ?_ _) | (with_reducible refine xf_' ?_)))
              (case aB => exact (bm HB))
              (case aF => exact (fun k_ hk => ⟨Kd.fresh' (Kd.R_lt (rm HO1003)) k_ hk, Kd.freshB (g := gb987) (o := .cells #[.int .i64 a1_0, .int .i64 a1_1] 109 (0, 0)) (km BK987) k_ hk⟩))
              (case aO => exact (by (with_reducible repeat (first | apply ra_' | apply rn_' | apply rd1_')); exact xi_' HO993.out (fun _ hk => ⟨hk.2, hk.1.2⟩)))
              (case aS => exact (ps_' (bm HB)))
              (case aL => have := LMc15.out; omega)
              intro v999 w28 ho hb hg hat
              rw [← Ny998.out] at ho
              have n0_ := sk_' (blk_grown (g := gb987) (o := .cells #[.int .i64 a1_0, .int .i64 a1_1] 109 (0, 0)) (km BK987) hg (Kd.R_away HO993.out (fun _ hk => hk.1.2)))
              have n1_ := sk_' (Kd.R_after (ok := (fun k_ => k_ ≠ gb987)) (by (with_reducible repeat (first | apply ra_' | apply rn_' | apply rd1_')); exact xi_' HO1003.out (fun _ hk => ⟨hk.2, hk.1.2⟩)) hg hat)
              have n2_ := sk_' (hb)
              have n3_ := sk_' (ho)
              clear BK987
              clear HO1003
              clear HB
              clear HO993
              have BK987 := n0_
              have HO1003 := n1_
              have HB := n2_
              have HO1000 := n3_
              clear n0_ n1_ n2_ n3_
              clear ho hb hg hat
              refine hK.out _ _ ⟨(kc_' BK987.out 0).trans rfl, (kc_' BK987.out 1).trans rfl⟩ (fun hHeld => ?_)
              clear hK K
              refine norm_ (a' := ?_) ?_ ?_
              rotate_left
              ·
               show Act.put _ (some 49) _ = _
               simp only [Act.put, sa_', sz_', sc_', i64_w, i32_w]
               rfl
              exact norm_ (by simp only [putAll, Act.put, sa_', sz_', sc_']) (hCont (v992, v999, v1002) _ ⟨hHeld, (rm HO1000), (by (with_reducible repeat (first | apply ra_' | apply rn_' | apply rd1_')); exact xi_' HO1003.out (fun _ hk => ⟨hk.2, hk.1⟩)), (km BK987), (bm HB)⟩)
             skip
             refine Kd.R_lit_step k109 _ 109 ?hg (N := 51) ?hd (xs := ([(⟨a1_0, a1_1⟩ : S109)] : List (S109))) (inner := [.int .i64 a1_0, .int .i64 a1_1]) (ok := fun _ => True) (okp := fun _ => True) ?hr ?hp (fun _ hk => hk) trivial (Below.refl _ _) (Nat.le_refl _) (by simp) ?_; (case hd => rfl); (case hg => rfl); (case hr => first | (go_simp; done) | (go_simp; rfl)); (case hp => exact (Reps.c2 (show Kd.M k109 _ _ _ (⟨a1_0, a1_1⟩ : S109) [.int .i64 a1_0, .int .i64 a1_1] from (k109_mkM _ _ _ (⟨a1_0, a1_1⟩ : S109) )) (Reps.none _ _)))
             intro v1002 w24 ho25 hb hg_ hnew_
             clear hg_ hnew_
             (first | rw [← Ny1001.out] at ho25 | (simp only [Int.reduceToNat] at ho25; rw [← Ny1001.out] at ho25))
             have n0_ := sk_' (Kd.R_lower (Kd.R_newB ho25 (g := gb987) (o := .cells #[.int .i64 a1_0, .int .i64 a1_1] 109 (0, 0)) (km BK987)) (ps_' (bm HB)))
             have n1_ := sk_' (blk_below (g := gb987) (o := .cells #[.int .i64 a1_0, .int .i64 a1_1] 109 (0, 0)) (km BK987) hb)
             have n2_ := sk_' (pp_' (bm HB) hb)
             clear BK987
             clear HB
             have HO1003 := n0_
             have BK987 := n1_
             have HB := n2_
             clear n0_ n1_ n2_
             clear hb ho25
             refine hK.out _ _ ⟨(kc_' BK987.out 0).trans rfl, (kc_' BK987.out 1).trans rfl⟩ (fun hHeld => ?_)
             clear hK K
             refine norm_ (a' := ?_) ?_ ?_
             rotate_left
             ·
              show Act.put _ (some 51) _ = _
              simp only [Act.put, sa_', sz_', sc_', i64_w, i32_w]
              rfl
             refine one_ (i := 0) (N := some 45) #[true, true, true, true, false, true, true, false, true, true, true, false, false] rfl rfl (one_of HT_.out (by kernel_rfl)) (by decide) (fun K hK => ?_)
             refine Kd.R_lit_step k109 _ 109 ?hg (N := 45) ?hd (xs := ([] : List (S109))) (inner := []) (ok := fun _ => True) (okp := fun _ => True) ?hr ?hp (fun _ hk => hk) trivial (Below.refl _ _) (Nat.le_refl _) (by simp) ?_; (case hd => rfl); (case hg => rfl); (case hr => first | (go_simp; done) | (go_simp; rfl)); (case hp => exact (Reps.none _ _))
             intro v992 w26 ho27 hb hg_ hnew_
             clear hg_ hnew_
             (first | rw [← Ny991.out] at ho27 | (simp only [Int.reduceToNat] at ho27; rw [← Ny991.out] at ho27))
             have n0_ := sk_' (Kd.R_elder' (rm HO1003) (Kd.R_base ho27) hb)
             have n1_ := sk_' (Kd.R_lower (Kd.R_newB (Kd.R_new' ho27 (Kd.R_lt (rm HO1003))) (g := gb987) (o := .cells #[.int .i64 a1_0, .int .i64 a1_1] 109 (0, 0)) (km BK987)) (ps_' (bm HB)))
             have n2_ := sk_' (blk_below (g := gb987) (o := .cells #[.int .i64 a1_0, .int .i64 a1_1] 109 (0, 0)) (km BK987) hb)
             have n3_ := sk_' (pp_' (bm HB) hb)
             clear HO1003
             clear BK987
             clear HB
             have HO1003 := n0_
             have HO993 := n1_
             have BK987 := n2_
             have HB := n3_
             clear n0_ n1_ n2_ n3_
             clear hb ho27
             refine hK.out _ _ ⟨(kc_' BK987.out 0).trans rfl, (kc_' BK987.out 1).trans rfl⟩ (fun hHeld => ?_)
             clear hK K
             refine norm_ (a' := ?_) ?_ ?_
             rotate_left
             ·
              show Act.put _ (some 45) _ = _
              simp only [Act.put, sa_', sz_', sc_', i64_w, i32_w]
              rfl
             refine one_ (i := 4) (N := some 49) #[true, true, true, true, true, true, true, false, true, true, true, false, false] rfl rfl (one_of HT_.out (by kernel_rfl)) (by decide) (fun K hK => ?_)
             refine Kd.R_append_rows_step k109 (w0 := w) w.heap.size (by rfl) (.tmp 45) (.tmp 48) 37 109 (.agg #[(.int .i64 0), (.int .i64 0)]) 16 rfl Try.underlying37 info109 rfl (by decide) (by omega) v992 y991 y994 _ _ _ (fun k_ => some k_ ≠ (v1002 : Value).ownBlock ∧ k_ ≠ gb987) (fun _ => False) rfl rfl ?aO ?aR (fun _ _ h => h) (fun _ h => h.elim) ?aF ?aB ?aS ?aL ?_
             (case aR => repeat (first | exact (Kd.C_below HR997.out HB.out) | (with_reducible refine xg_' ?_ _) | (with_reducible refine xe_' ?_ _) | (with_reducible refine xf_' ?_)))
             (case aB => exact (bm HB))
             (case aF => exact (fun k_ hk => ⟨Kd.fresh' (Kd.R_lt (rm HO1003)) k_ hk, Kd.freshB (g := gb987) (o := .cells #[.int .i64 a1_0, .int .i64 a1_1] 109 (0, 0)) (km BK987) k_ hk⟩))
             (case aO => exact (by (with_reducible repeat (first | apply ra_' | apply rn_' | apply rd1_')); exact xi_' HO993.out (fun _ hk => ⟨hk.1.2, hk.2⟩)))
             (case aS => exact (ps_' (bm HB)))
             (case aL => have := LMc15.out; omega)
             intro v999 w28 ho hb hg hat
             rw [← Ny998.out] at ho
             have n0_ := sk_' (blk_grown (g := gb987) (o := .cells #[.int .i64 a1_0, .int .i64 a1_1] 109 (0, 0)) (km BK987) hg (Kd.R_away HO993.out (fun _ hk => hk.2)))
             have n1_ := sk_' (Kd.R_after (ok := (fun k_ => k_ ≠ gb987)) (by (with_reducible repeat (first | apply ra_' | apply rn_' | apply rd1_')); exact xi_' HO1003.out (fun _ hk => ⟨hk.1.2, hk.2⟩)) hg hat)
             have n2_ := sk_' (hb)
             have n3_ := sk_' (ho)
             clear BK987
             clear HO1003
             clear HB
             clear HO993
             have BK987 := n0_
             have HO1003 := n1_
             have HB := n2_
             have HO1000 := n3_
             clear n0_ n1_ n2_ n3_
             clear ho hb hg hat
             refine hK.out _ _ ⟨(kc_' BK987.out 0).trans rfl, (kc_' BK987.out 1).trans rfl⟩ (fun hHeld => ?_)
             clear hK K
             refine norm_ (a' := ?_) ?_ ?_
             rotate_left
             ·
              show Act.put _ (some 49) _ = _
              simp only [Act.put, sa_', sz_', sc_', i64_w, i32_w]
              rfl
             exact norm_ (by simp only [putAll, Act.put, sa_', sz_', sc_']) (hCont (v992, v999, v1002) _ ⟨hHeld, (rm HO1000), (by (with_reducible repeat (first | apply ra_' | apply rn_' | apply rd1_')); exact xi_' HO1003.out (fun _ hk => ⟨hk.2, hk.1⟩)), (km BK987), (bm HB)⟩)
            rintro ⟨v992, v999, v1002⟩ w29 ⟨hS_, h0_, h1_, h2_, h3_⟩
            have n0_ : Aside0 (Kd.R k109 109 w29 w.heap.size (fun k_ => some k_ ≠ (v1002 : Value).ownBlock ∧ k_ ≠ gb987) v999 y998) := ⟨h0_⟩
            have n1_ : Aside0 (Kd.R k109 109 w29 w.heap.size (fun k_ => some k_ ≠ (v999 : Value).ownBlock ∧ k_ ≠ gb987) v1002 y1001) := ⟨h1_⟩
            have n2_ : Aside0 (w29.heap[gb987]? = some (.cells #[.int .i64 a1_0, .int .i64 a1_1] 109 (0, 0))) := ⟨h2_⟩
            have n3_ : Aside0 (Below w.heap.size w w29) := ⟨h3_⟩
            clear BK987
            clear HB
            clear h0_ h1_ h2_ h3_
            have HO1000 := n0_
            have HO1003 := n1_
            have BK987 := n2_
            have HB := n3_
            clear n0_ n1_ n2_ n3_
            have hHeld : w29.cell? ⟨gb987, 0, none⟩ = some (.int .i64 a1_0) ∧ w29.cell? ⟨gb987, 1, none⟩ = some (.int .i64 a1_1) := hS_
            obtain ⟨Ao31, co31, eo31⟩ := Kd.R_slice HO1003.out
            (first | subst eo31 | (injection eo31 with f1_ f2_ f3_; have f4_ := f1_.symm; have f5_ := f3_.symm; clear f1_ f2_ f3_; subst f4_; subst f5_))
            refine norm_ (a' := ?_) ?_ ?_
            rotate_left
            ·
             simp only [putAll, Act.put, sa_', sz_', sc_']
             rfl
            refine one_ (i := 7) (N := some 52) #[true, true, true, true, true, true, true, true, true, true, true, false, false] rfl rfl (one_of HT_.out (by kernel_rfl)) (by decide) (fun K hK => ?_)
            refine Kd.R_append_rows_step k109 (w0 := w) w.heap.size (by rfl) (.tmp 49) (.tmp 51) 37 109 (.agg #[(.int .i64 0), (.int .i64 0)]) 16 rfl Try.underlying37 info109 rfl (by decide) (by omega) v999 y998 y1001 _ _ _ (fun k_ => some k_ ≠ (.slice Ao31 y1001.length co31 : Value).ownBlock ∧ k_ ≠ gb987) (fun _ => False) rfl rfl ?aO ?aR (fun _ _ h => h) (fun _ h => h.elim) ?aF ?aB ?aS ?aL ?_
            (case aR => repeat (first | exact (xr_' HO1003.out).2.2 | (with_reducible refine xg_' ?_ _) | (with_reducible refine xe_' ?_ _) | (with_reducible refine xf_' ?_)))
            (case aB => exact (bm HB))
            (case aF => exact (fun k_ hk => ⟨Kd.fresh' (Kd.R_lt (rm HO1003)) k_ hk, Kd.freshB (g := gb987) (o := .cells #[.int .i64 a1_0, .int .i64 a1_1] 109 (0, 0)) (km BK987) k_ hk⟩))
            (case aO => exact (rm HO1000))
            (case aS => exact (ps_' (bm HB)))
            (case aL => have := LMc16.out; omega)
            intro v1005 w30 ho hb hg hat
            rw [← Ny1004.out] at ho
            have n0_ := sk_' (blk_grown (g := gb987) (o := .cells #[.int .i64 a1_0, .int .i64 a1_1] 109 (0, 0)) (km BK987) hg (Kd.R_away HO1000.out (fun _ hk => hk.2)))
            have n1_ := sk_' (Kd.R_after (ok := (fun k_ => k_ ≠ gb987)) (by (with_reducible repeat (first | apply ra_' | apply rn_' | apply rd1_')); exact xi_' HO1003.out (fun _ hk => ⟨hk.2, hk.1⟩)) hg hat)
            have n2_ := sk_' (hb)
            have n3_ := sk_' (ho)
            clear BK987
            clear HO1003
            clear HB
            clear HO1000
            have BK987 := n0_
            have HO1003 := n1_
            have HB := n2_
            have HO1006 := n3_
            clear n0_ n1_ n2_ n3_
            clear ho hb hg hat
            refine hK.out _ _ ⟨(kc_' BK987.out 0).trans rfl, (kc_' BK987.out 1).trans rfl⟩ (fun hHeld => ?_)
            clear hK K
            refine norm_ (a' := ?_) ?_ ?_
            rotate_left
            ·
             show Act.put _ (some 52) _ = _
             simp only [Act.put, sa_', sz_', sc_', i64_w, i32_w]
             rfl
            refine one_ (i := 11) (N := some 56) #[true, true, true, true, true, true, true, true, true, true, true, true, false] rfl rfl (one_of HT_.out (by kernel_rfl)) (by decide) (fun K hK => ?_)
            refine Kd.R_append_rows_step k109 (w0 := w) w.heap.size (by rfl) (.tmp 52) (.tmp 55) 37 109 (.agg #[(.int .i64 0), (.int .i64 0)]) 16 rfl Try.underlying37 info109 rfl (by decide) (by omega) v1005 y1004 y1007 _ _ _ (fun k_ => some k_ ≠ (.slice Ao31 y1001.length co31 : Value).ownBlock ∧ k_ ≠ gb987) (fun _ => False) rfl rfl ?aO ?aR (fun _ _ h => h) (fun _ h => h.elim) ?aF ?aB ?aS ?aL ?_
            (case aR => repeat (first | exact (Kd.C_below HR1010.out HB.out) | (with_reducible refine xg_' ?_ _) | (with_reducible refine xe_' ?_ _) | (with_reducible refine xf_' ?_)))
            (case aB => exact (bm HB))
            (case aF => exact (fun k_ hk => ⟨Kd.fresh' (Kd.R_lt (rm HO1003)) k_ hk, Kd.freshB (g := gb987) (o := .cells #[.int .i64 a1_0, .int .i64 a1_1] 109 (0, 0)) (km BK987) k_ hk⟩))
            (case aO => exact (rm HO1006))
            (case aS => exact (ps_' (bm HB)))
            (case aL => have := LMc19.out; omega)
            intro v1012 w32 ho hb hg hat
            rw [← Ny1011.out] at ho
            have n0_ := sk_' (blk_grown (g := gb987) (o := .cells #[.int .i64 a1_0, .int .i64 a1_1] 109 (0, 0)) (km BK987) hg (Kd.R_away HO1006.out (fun _ hk => hk.2)))
            have n1_ := sk_' (Kd.R_after (ok := (fun k_ => k_ ≠ gb987)) (rm HO1003) hg hat)
            have n2_ := sk_' (hb)
            have n3_ := sk_' (ho)
            clear BK987
            clear HO1003
            clear HB
            clear HO1006
            have BK987 := n0_
            have HO1003 := n1_
            have HB := n2_
            have HO1013 := n3_
            clear n0_ n1_ n2_ n3_
            clear ho hb hg hat
            refine hK.out _ _ ⟨(kc_' BK987.out 0).trans rfl, (kc_' BK987.out 1).trans rfl⟩ (fun hHeld => ?_)
            clear hK K
            refine norm_ (a' := ?_) ?_ ?_
            rotate_left
            ·
             show Act.put _ (some 56) _ = _
             simp only [Act.put, sa_', sz_', sc_', i64_w, i32_w]
             rfl
            refine pure_ (i := 12) (N := some 4) (v := ?_) (a' := ?_) #[true, true, true, true, true, true, true, true, true, true, true, true, true] rfl rfl (any_of HT_.out (by kernel_rfl)) (fun _ _ _ h => h) (Or.inl ⟨by rfl, ?_⟩) ?_ ?_
            rotate_left
            ·
             intro w'
             go_simp
             with_reducible rfl
            rotate_left
            ·
             simp only [Act.put, sa_', sz_', sc_', i64_w, i32_w]
             rfl
            refine done_ (done_of HT_.out (by kernel_rfl)) ?_
            try go_wp2
            go_ret
            exact ⟨_, by first | rfl | (simp [errW_none, errW_some] <;> rfl) | (simp only [← hji5]; first | rfl | (simp [errW_none, errW_some] <;> rfl)) | (simp [*, errW_none, errW_some] <;> rfl), by (with_reducible repeat (first | apply ra_' | apply rn_' | apply rd1_')); exact xi_' HO1013.out (fun _ hk => trivial), bm HB⟩
           rw [if_neg c19] at H
           exact absurd H (by simp)
          rw [if_neg c16] at H
          exact absurd H (by simp)
         rw [if_neg c15] at H
         exact absurd H (by simp)
        rw [if_neg c14] at H
        exact absurd H (by simp)
       rw [if_neg c13] at H
       exact absurd H (by simp)
      rw [if_neg c10] at H
      have c10b0 : (((rd_T109 l0 (ji5)).f0) == a1_0) = false := beq_eq_false_iff_ne.mpr c10
      have c10b1 : (((rd_T109 l0 (ji5)).f0) != a1_0) = true := bne_iff_ne.mpr c10
      obtain ⟨y1014, hy1014⟩ : ∃ y_ : List (S109), y_ = (([] : List (S109))) := ⟨_, rfl⟩
      replace H : (if 0 ≤ x5_1 then (if x5_1 ≤ (l0.length : Int) then ((some (l0.take (x5_1 : Int).toNat : List (S109))).bind fun y1017 => (if y1014.length + y1017.length < 8796093022208 then ((some (y1014 ++ y1017 : List (S109))).bind fun y1021 => ((some (([(⟨a1_0, a1_1⟩ : S109)] : List (S109)) : List (S109))).bind fun y1024 => (if y1021.length + y1024.length < 8796093022208 then ((some (y1021 ++ y1024 : List (S109))).bind fun y1027 => ((some (l0.drop (x5_1 : Int).toNat : List (S109))).bind fun y1030 => (if y1027.length + y1030.length < 8796093022208 then (some (y1027 ++ y1030)) else (none)))) else (none)))) else (none))) else (none)) else (none)) = some r := by first | (rw [hy1014]; with_reducible exact H) | (have H2_ := (Option.bind_some _ _).symm.trans H; rw [hy1014]; with_reducible exact H2_) | (have H2_ := (Option.bind_some _ _).symm.trans H; with_reducible exact H2_) | with_reducible exact H | (rw [hy1014]; exact H) | exact H
      have Ny1014 := sk_' hy1014
      clear hy1014
      by_cases c33 : 0 ≤ x5_1
      ·
       rw [if_pos c33] at H
       have c33b0 := eq_true c33
       have c33b1 : decide (0 ≤ x5_1) = true := decide_eq_true c33
       clear c33
       by_cases c34 : x5_1 ≤ (l0.length : Int)
       ·
        rw [if_pos c34] at H
        have c34b0 := eq_true c34
        have c34b1 : decide (x5_1 ≤ (l0.length : Int)) = true := decide_eq_true c34
        clear c34
        obtain ⟨y1017, hy1017⟩ : ∃ y_ : List (S109), y_ = (l0.take (x5_1 : Int).toNat) := ⟨_, rfl⟩
        replace H : (if y1014.length + y1017.length < 8796093022208 then ((some (y1014 ++ y1017 : List (S109))).bind fun y1021 => ((some (([(⟨a1_0, a1_1⟩ : S109)] : List (S109)) : List (S109))).bind fun y1024 => (if y1021.length + y1024.length < 8796093022208 then ((some (y1021 ++ y1024 : List (S109))).bind fun y1027 => ((some (l0.drop (x5_1 : Int).toNat : List (S109))).bind fun y1030 => (if y1027.length + y1030.length < 8796093022208 then (some (y1027 ++ y1030)) else (none)))) else (none)))) else (none)) = some r := by first | (rw [hy1017]; with_reducible exact H) | (have H2_ := (Option.bind_some _ _).symm.trans H; rw [hy1017]; with_reducible exact H2_) | (have H2_ := (Option.bind_some _ _).symm.trans H; with_reducible exact H2_) | with_reducible exact H | (rw [hy1017]; exact H) | exact H
        have Ny1017 := sk_' hy1017
        clear hy1017
        by_cases c35 : y1014.length + y1017.length < 8796093022208
        ·
         rw [if_pos c35] at H
         have LMc35 := sk_' c35
         clear c35
         obtain ⟨y1021, hy1021⟩ : ∃ y_ : List (S109), y_ = (y1014 ++ y1017) := ⟨_, rfl⟩
         replace H : ((some (([(⟨a1_0, a1_1⟩ : S109)] : List (S109)) : List (S109))).bind fun y1024 => (if y1021.length + y1024.length < 8796093022208 then ((some (y1021 ++ y1024 : List (S109))).bind fun y1027 => ((some (l0.drop (x5_1 : Int).toNat : List (S109))).bind fun y1030 => (if y1027.length + y1030.length < 8796093022208 then (some (y1027 ++ y1030)) else (none)))) else (none))) = some r := by first | (rw [hy1021]; with_reducible exact H) | (have H2_ := (Option.bind_some _ _).symm.trans H; rw [hy1021]; with_reducible exact H2_) | (have H2_ := (Option.bind_some _ _).symm.trans H; with_reducible exact H2_) | with_reducible exact H | (rw [hy1021]; exact H) | exact H
         have Ny1021 := sk_' hy1021
         clear hy1021
         obtain ⟨y1024, hy1024⟩ : ∃ y_ : List (S109), y_ = (([(⟨a1_0, a1_1⟩ : S109)] : List (S109))) := ⟨_, rfl⟩
         replace H : (if y1021.length + y1024.length < 8796093022208 then ((some (y1021 ++ y1024 : List (S109))).bind fun y1027 => ((some (l0.drop (x5_1 : Int).toNat : List (S109))).bind fun y1030 => (if y1027.length + y1030.length < 8796093022208 then (some (y1027 ++ y1030)) else (none)))) else (none)) = some r := by first | (rw [hy1024]; with_reducible exact H) | (have H2_ := (Option.bind_some _ _).symm.trans H; rw [hy1024]; with_reducible exact H2_) | (have H2_ := (Option.bind_some _ _).symm.trans H; with_reducible exact H2_) | with_reducible exact H | (rw [hy1024]; exact H) | exact H
         have Ny1024 := sk_' hy1024
         clear hy1024
         by_cases c36 : y1021.length + y1024.length < 8796093022208
         ·
          rw [if_pos c36] at H
          have LMc36 := sk_' c36
          clear c36
          obtain ⟨y1027, hy1027⟩ : ∃ y_ : List (S109), y_ = (y1021 ++ y1024) := ⟨_, rfl⟩
          replace H : ((some (l0.drop (x5_1 : Int).toNat : List (S109))).bind fun y1030 => (if y1027.length + y1030.length < 8796093022208 then (some (y1027 ++ y1030)) else (none))) = some r := by first | (rw [hy1027]; with_reducible exact H) | (have H2_ := (Option.bind_some _ _).symm.trans H; rw [hy1027]; with_reducible exact H2_) | (have H2_ := (Option.bind_some _ _).symm.trans H; with_reducible exact H2_) | with_reducible exact H | (rw [hy1027]; exact H) | exact H
          have Ny1027 := sk_' hy1027
          clear hy1027
          have c37b0 := eq_true (od_' (by first | (with_reducible assumption) | assumption) : 0 ≤ x5_1)
          have c38b0 := eq_true (od_' (by first | (with_reducible assumption) | assumption) : x5_1 ≤ (l0.length : Int))
          obtain ⟨y1030, hy1030⟩ : ∃ y_ : List (S109), y_ = (l0.drop (x5_1 : Int).toNat) := ⟨_, rfl⟩
          replace H : (if y1027.length + y1030.length < 8796093022208 then (some (y1027 ++ y1030)) else (none)) = some r := by first | (rw [hy1030]; with_reducible exact H) | (have H2_ := (Option.bind_some _ _).symm.trans H; rw [hy1030]; with_reducible exact H2_) | (have H2_ := (Option.bind_some _ _).symm.trans H; with_reducible exact H2_) | with_reducible exact H | (rw [hy1030]; exact H) | exact H
          have Ny1030 := sk_' hy1030
          clear hy1030
          by_cases c39 : y1027.length + y1030.length < 8796093022208
          ·
           rw [if_pos c39] at H
           have LMc39 := sk_' c39
           clear c39
           obtain ⟨y1034, hy1034⟩ : ∃ y_ : List (S109), y_ = (y1027 ++ y1030) := ⟨_, rfl⟩
           replace H : (some y1034) = some r := by first | (rw [hy1034]; with_reducible exact H) | (have H2_ := (Option.bind_some _ _).symm.trans H; rw [hy1034]; with_reducible exact H2_) | (have H2_ := (Option.bind_some _ _).symm.trans H; with_reducible exact H2_) | with_reducible exact H | (rw [hy1034]; exact H) | exact H
           have Ny1034 := sk_' hy1034
           clear hy1034
           obtain rfl := Option.some.inj H
           try go_wp2
           have n0_ := sk_' (kd_' BK987.out)
           have n1_ := sk_' (pd_' HB.out)
           clear BK987
           clear HB
           have BK987 := n0_
           have HB := n1_
           clear n0_ n1_
           have p988 : 0 ≤ ((ji5) : Int) := od_' (by first | (with_reducible assumption) | assumption)
           have q988 : (ji5) < (l0.length : Int) := od_' (by first | (with_reducible assumption) | assumption)
           obtain ⟨ad988, e988, hx988_0, hx988_1⟩ := at_T109 HR0.out (ji5) p988 q988
           have hw988_1 := hx988_1
           have hw988_0 := hx988_0
           cases e988
           replace hx988_0 := (HB.out.cell (bq_' w _ hx988_0)).trans hx988_0
           replace hx988_1 := (HB.out.cell (bq_' w _ hx988_1)).trans hx988_1
           replace p988 := eq_true p988
           replace q988 := eq_true q988
           have p989 : 0 ≤ ((ji5) : Int) := od_' (by first | (with_reducible assumption) | assumption)
           have q989 : (ji5) < (l0.length : Int) := od_' (by first | (with_reducible assumption) | assumption)
           obtain ⟨ad989, e989, hx989_0, hx989_1⟩ := at_T109 HR0.out (ji5) p989 q989
           have hw989_1 := hx989_1
           have hw989_0 := hx989_0
           obtain rfl : ad988 = ad989 := (by injection e989)
           replace hx989_0 := (HB.out.cell (bq_' w _ hx989_0)).trans hx989_0
           replace hx989_1 := (HB.out.cell (bq_' w _ hx989_1)).trans hx989_1
           replace p989 := eq_true p989
           replace q989 := eq_true q989
           have hq0_ : wr.cell? ⟨gb987, 0, none⟩ = some (.int .i64 a1_0) := (kc_' BK987.out 0).trans rfl
           have hq1_ : wr.cell? ⟨gb987, 1, none⟩ = some (.int .i64 a1_1) := (kc_' BK987.out 1).trans rfl
           have hq2_ : wr.cell? (ad988.add (((ji5)).toNat * 2)) = some (.int .i64 ((rd_T109 l0 (ji5)).f0)) := ((HB.out.cell (bq_' w _ hw988_0)).trans hw988_0)
           have hq3_ : wr.cell? ⟨(ad988.add (((ji5)).toNat * 2)).block, (ad988.add (((ji5)).toNat * 2)).off + 1, none⟩ = some (.int .i64 ((rd_T109 l0 (ji5)).f1)) := ((HB.out.cell (bq_' w _ hw988_1)).trans hw988_1)
           have hq4_ : wr.cell? (ad988.add (((ji5)).toNat * 2)) = some (.int .i64 ((rd_T109 l0 (ji5)).f0)) := ((HB.out.cell (bq_' w _ hw989_0)).trans hw989_0)
           have hq5_ : wr.cell? ⟨(ad988.add (((ji5)).toNat * 2)).block, (ad988.add (((ji5)).toNat * 2)).off + 1, none⟩ = some (.int .i64 ((rd_T109 l0 (ji5)).f1)) := ((HB.out.cell (bq_' w _ hw989_1)).trans hw989_1)
           go_quiet (fail)
           have nBK987_ := sk_' (kn_' (w := wr) BK987.out nq)
           have nHB_ := sk_' (pn_' (W := wr) ⟨HB.out.os, HB.out.tape, HB.out.output, HB.out.size, HB.out.block⟩ nq)
           have nhx988_0_ : (wr.drewN nq).cell? _ = _ := hx988_0
           have nhx988_1_ : (wr.drewN nq).cell? _ = _ := hx988_1
           have nhx989_0_ : (wr.drewN nq).cell? _ = _ := hx989_0
           have nhx989_1_ : (wr.drewN nq).cell? _ = _ := hx989_1
           clear BK987 HB hx988_0 hx988_1 hx989_0 hx989_1 hq0_ hq1_ hq2_ hq3_ hq4_ hq5_
           have BK987 := nBK987_
           have HB := nHB_
           have hx988_0 := nhx988_0_
           have hx988_1 := nhx988_1_
           have hx989_0 := nhx989_0_
           have hx989_1 := nhx989_1_
           clear nBK987_ nHB_ nhx988_0_ nhx988_1_ nhx989_0_ nhx989_1_
           generalize wr.drewN nq = w40 at BK987 HB hx988_0 hx988_1 hx989_0 hx989_1 ⊢
           try go_wp2
           have n0_ := sk_' (kd_' BK987.out)
           have n1_ := sk_' (pd_' HB.out)
           clear BK987
           clear HB
           have BK987 := n0_
           have HB := n1_
           clear n0_ n1_
           have q42 : (x5_1 : Int) ≤ ((l0.length : Int) : Int) := od_' (by first | (with_reducible assumption) | assumption)
           obtain ⟨i042, hi042, _, hsz42, _⟩ := info_parts info109
           have hroom42 : l0.length ≤ c0 := HC0.out
           have hC42 : Kd.C k109 _ (some ad988) l0.length l0 := HR0.out
           have hcut42 := cut_to (P := Try.prog) 37 109 .i64 Try.underlying37 hi042 (some ad988) l0.length c0 x5_1 (od_' (by first | (with_reducible assumption) | assumption)) q42 hroom42
           have hr42 := Kd.C_take (m := (x5_1 : Int).toNat) hC42 (by omega)
           have hy42 : y1017.length = (x5_1 : Int).toNat := (by rw [Ny1017.out, xt_']; omega)
           rw [← Ny1017.out] at hr42
           rw [← hy42] at hcut42
           have HR1020 := sk_' hr42
           have HC1020 := sk_' (show y1017.length ≤ c0 from by omega)
           clear hr42 hC42 hroom42 hi042 hsz42
           have KY42 := sk_' hy42
           clear hy42
           replace q42 := eq_true q42
           have q43 : (x5_1 : Int) ≤ ((l0.length : Int) : Int) := od_' (by first | (with_reducible assumption) | assumption)
           obtain ⟨i043, hi043, _, hsz43, _⟩ := info_parts info109
           have hroom43 : l0.length ≤ c0 := HC0.out
           have hC43 : Kd.C k109 _ (some ad988) l0.length l0 := HR0.out
           have q043 : (0 : Int) ≤ (x5_1 : Int) := od_' (by first | (with_reducible assumption) | assumption)
           have hcut43 := cut_from (P := Try.prog) 37 109 .i64 Try.underlying37 hi043 2 hsz43 (some ad988) l0.length c0 x5_1 q043 q43
           have hr43 := Kd.C_drop (m := (x5_1 : Int).toNat) (c := c0) hC43 (by omega) hroom43
           obtain ⟨A43, hA43⟩ : ∃ A1, A1 = (if c0 = (x5_1 : Int).toNat then (some ad988) else ((some ad988) : Option Addr).map (·.add ((x5_1 : Int).toNat * 2))) := ⟨_, rfl⟩
           obtain ⟨c43, hc43⟩ : ∃ c1, c1 = c0 - (x5_1 : Int).toNat := ⟨_, rfl⟩
           have hy43 : y1030.length = l0.length - (x5_1 : Int).toNat := (by rw [Ny1030.out, xd_'] <;> omega)
           rw [show (l0).drop (x5_1 : Int).toNat = y1030 from Ny1030.out.symm] at hr43
           replace hr43 : Kd.C k109 _ A43 y1030.length y1030 := (by rw [hA43]; exact hr43)
           rw [← hy43, ← hA43, ← hc43] at hcut43
           have HR1033 := sk_' hr43
           have HC1033 := sk_' (show y1030.length ≤ c43 from by rw [hy43, hc43]; exact Nat.sub_le_sub_right hroom43 _)
           clear hr43 hC43 hroom43 hi043 hsz43 hc43
           have KY43 := sk_' hy43
           have KA43 := sk_' hA43
           clear hy43 hA43
           replace q43 := eq_true q43
           refine start_ (n := 13) (S := fun w' => w'.cell? ⟨gb987, 0, none⟩ = some (.int .i64 a1_0) ∧ w'.cell? ⟨gb987, 1, none⟩ = some (.int .i64 a1_1)) (ds := []) #[false, false, false, false, false, false, false, false, false, false, false, false, false] (by kernel_rfl) rfl rfl ⟨(kc_' BK987.out 0).trans rfl, (kc_' BK987.out 1).trans rfl⟩ (fun hHeld => ?_); refine with_tabW spec_l14Put.tab4 spec_l14Put.bits4 (fun HT_ HW_ => ?_)
           generalize w40.drew = w41 at BK987 HB HR1020 HR1033 hHeld ⊢
           refine pure_ (i := 1) (N := some 46) (v := ?_) (a' := ?_) #[false, true, false, false, false, false, false, false, false, false, false, false, false] rfl rfl (any_of HT_.out (by kernel_rfl)) (fun _ _ _ h => h) (Or.inl ⟨by rfl, ?_⟩) ?_ ?_
           rotate_left
           ·
            intro w'
            go_simp
            with_reducible rfl
           rotate_left
           ·
            simp only [Act.put, sa_', sz_', sc_', i64_w, i32_w]
            rfl
           refine pure_ (i := 2) (N := some 47) (v := ?_) (a' := ?_) #[false, true, true, false, false, false, false, false, false, false, false, false, false] rfl rfl (any_of HT_.out (by kernel_rfl)) (fun _ _ _ h => h) (Or.inl ⟨by rfl, ?_⟩) ?_ ?_
           rotate_left
           ·
            intro w'
            go_simp
            with_reducible rfl
           rotate_left
           ·
            simp only [Act.put, sa_', sz_', sc_', i64_w, i32_w]
            rfl
           refine pure_ (i := 3) (N := some 48) (v := ?_) (a' := ?_) #[false, true, true, true, false, false, false, false, false, false, false, false, false] rfl rfl (any_of HT_.out (by kernel_rfl)) (fun _ _ _ h => h) (Or.inl ⟨by rfl, ?_⟩) ?_ ?_
           rotate_left
           ·
            intro w'
            go_simp
            with_reducible rfl
           rotate_left
           ·
            simp only [Act.put, sa_', sz_', sc_', i64_w, i32_w]
            rfl
           refine pure_ (i := 8) (N := some 53) (v := ?_) (a' := ?_) #[false, true, true, true, false, false, false, false, true, false, false, false, false] rfl rfl (any_of HT_.out (by kernel_rfl)) (fun _ _ _ h => h) (Or.inl ⟨by rfl, ?_⟩) ?_ ?_
           rotate_left
           ·
            intro w'
            go_simp
            with_reducible rfl
           rotate_left
           ·
            simp only [Act.put, sa_', sz_', sc_', i64_w, i32_w]
            rfl
           refine pure_ (i := 9) (N := some 54) (v := ?_) (a' := ?_) #[false, true, true, true, false, false, false, false, true, true, false, false, false] rfl rfl (any_of HT_.out (by kernel_rfl)) (fun _ _ _ h => h) (Or.inl ⟨by rfl, ?_⟩) ?_ ?_
           rotate_left
           ·
            intro w'
            go_simp
            with_reducible rfl
           rotate_left
           ·
            simp only [Act.put, sa_', sz_', sc_', i64_w, i32_w]
            rfl
           refine pure_ (i := 10) (N := some 55) (v := ?_) (a' := ?_) #[false, true, true, true, false, false, false, false, true, true, true, false, false] rfl rfl (any_of HT_.out (by kernel_rfl)) (fun _ _ _ h => h) (Or.inl ⟨by rfl, ?_⟩) ?_ ?_
           rotate_left
           ·
            intro w'
            go_simp
            with_reducible rfl
           rotate_left
           ·
            simp only [Act.put, sa_', sz_', sc_', i64_w, i32_w]
            rfl
           refine take_ (i := 5) (N := some 50) (v := ?_) (a' := ?_) #[false, true, true, true, false, true, false, false, true, true, true, false, false] rfl rfl (take_ofW HT_.out HW_.out (by kernel_rfl)) (fun _ _ _ h => h) (Or.inl ⟨by rfl, ?_⟩) hHeld ?_ ?_
           rotate_left
           ·
            rintro w' ⟨s0, s1⟩
            go_simp
            with_reducible rfl
           rotate_left
           ·
            simp only [Act.put, sa_', sz_', sc_', i64_w, i32_w]
            rfl
           refine join_ (σ := Value × Value × Value) 3 #[true, true, true, true, true, true, true, false, true, true, true, false, false] (fun s_ => [(45, s_.1), (49, s_.2.1), (51, s_.2.2)]) (fun s_ w' => (w'.cell? ⟨gb987, 0, none⟩ = some (.int .i64 a1_0) ∧ w'.cell? ⟨gb987, 1, none⟩ = some (.int .i64 a1_1)) ∧ (Kd.R k109 109 w' w.heap.size (fun k_ => some k_ ≠ (s_.2.2 : Value).ownBlock ∧ k_ ≠ gb987) s_.2.1 y1021) ∧ (Kd.R k109 109 w' w.heap.size (fun k_ => some k_ ≠ (s_.2.1 : Value).ownBlock ∧ k_ ≠ gb987) s_.2.2 y1024) ∧ (w'.heap[gb987]? = some (.cells #[.int .i64 a1_0, .int .i64 a1_1] 109 (0, 0))) ∧ (Below w.heap.size w w')) ?_ ?_
           rotate_left
           ·
            intro hCont
            refine two_ (i := 0) (j := 6) (Ni := some 45) (Nj := some 51) #[true, true, true, true, false, true, false, false, true, true, true, false, false] #[false, true, true, true, false, true, true, false, true, true, true, false, false] rfl rfl rfl rfl (two_of HT_.out (by kernel_rfl)) (by decide) (by decide) (fun K hK => ?_) (fun K hK => ?_)
            ·
             skip
             refine Kd.R_lit_step k109 _ 109 ?hg (N := 45) ?hd (xs := ([] : List (S109))) (inner := []) (ok := fun _ => True) (okp := fun _ => True) ?hr ?hp (fun _ hk => hk) trivial (Below.refl _ _) (Nat.le_refl _) (by simp) ?_; (case hd => rfl); (case hg => rfl); (case hr => first | (go_simp; done) | (go_simp; rfl)); (case hp => exact (Reps.none _ _))
             intro v1015 w44 ho45 hb hg_ hnew_
             clear hg_ hnew_
             (first | rw [← Ny1014.out] at ho45 | (simp only [Int.reduceToNat] at ho45; rw [← Ny1014.out] at ho45))
             have n0_ := sk_' (Kd.R_lower (Kd.R_newB ho45 (g := gb987) (o := .cells #[.int .i64 a1_0, .int .i64 a1_1] 109 (0, 0)) (km BK987)) (ps_' (bm HB)))
             have n1_ := sk_' (blk_below (g := gb987) (o := .cells #[.int .i64 a1_0, .int .i64 a1_1] 109 (0, 0)) (km BK987) hb)
             have n2_ := sk_' (pp_' (bm HB) hb)
             clear BK987
             clear HB
             have HO1016 := n0_
             have BK987 := n1_
             have HB := n2_
             clear n0_ n1_ n2_
             clear hb ho45
             refine hK.out _ _ ⟨(kc_' BK987.out 0).trans rfl, (kc_' BK987.out 1).trans rfl⟩ (fun hHeld => ?_)
             clear hK K
             refine norm_ (a' := ?_) ?_ ?_
             rotate_left
             ·
              show Act.put _ (some 45) _ = _
              simp only [Act.put, sa_', sz_', sc_', i64_w, i32_w]
              rfl
             refine two_ (i := 4) (j := 6) (Ni := some 49) (Nj := some 51) #[true, true, true, true, true, true, false, false, true, true, true, false, false] #[true, true, true, true, false, true, true, false, true, true, true, false, false] rfl rfl rfl rfl (two_of HT_.out (by kernel_rfl)) (by decide) (by decide) (fun K hK => ?_) (fun K hK => ?_)
             ·
              skip
              refine Kd.R_append_rows_step k109 (w0 := w) w.heap.size (by rfl) (.tmp 45) (.tmp 48) 37 109 (.agg #[(.int .i64 0), (.int .i64 0)]) 16 rfl Try.underlying37 info109 rfl (by decide) (by omega) v1015 y1014 y1017 _ _ _ (fun k_ => k_ ≠ gb987) (fun _ => False) rfl rfl ?aO ?aR (fun _ _ h => h) (fun _ h => h.elim) ?aF ?aB ?aS ?aL ?_
              (case aR => repeat (first | exact (Kd.C_below HR1020.out HB.out) | (with_reducible refine xg_' ?_ _) | (with_reducible refine xe_' ?_ _) | (with_reducible refine xf_' ?_)))
              (case aB => exact (bm HB))
              (case aF => exact (fun k_ hk => Kd.freshB (g := gb987) (o := .cells #[.int .i64 a1_0, .int .i64 a1_1] 109 (0, 0)) (km BK987) k_ hk))
              (case aO => exact (by (with_reducible repeat (first | apply ra_' | apply rn_' | apply rd1_')); exact xi_' HO1016.out (fun _ hk => hk.2)))
              (case aS => exact (ps_' (bm HB)))
              (case aL => have := LMc35.out; omega)
              intro v1022 w46 ho hb hg hat
              rw [← Ny1021.out] at ho
              have n0_ := sk_' (blk_grown (g := gb987) (o := .cells #[.int .i64 a1_0, .int .i64 a1_1] 109 (0, 0)) (km BK987) hg (Kd.R_away HO1016.out (fun _ hk => hk.2)))
              have n1_ := sk_' (hb)
              have n2_ := sk_' (ho)
              clear BK987
              clear HB
              clear HO1016
              have BK987 := n0_
              have HB := n1_
              have HO1023 := n2_
              clear n0_ n1_ n2_
              clear ho hb hg hat
              refine hK.out _ _ ⟨(kc_' BK987.out 0).trans rfl, (kc_' BK987.out 1).trans rfl⟩ (fun hHeld => ?_)
              clear hK K
              refine norm_ (a' := ?_) ?_ ?_
              rotate_left
              ·
               show Act.put _ (some 49) _ = _
               simp only [Act.put, sa_', sz_', sc_', i64_w, i32_w]
               rfl
              refine one_ (i := 6) (N := some 51) #[true, true, true, true, true, true, true, false, true, true, true, false, false] rfl rfl (one_of HT_.out (by kernel_rfl)) (by decide) (fun K hK => ?_)
              refine Kd.R_lit_step k109 _ 109 ?hg (N := 51) ?hd (xs := ([(⟨a1_0, a1_1⟩ : S109)] : List (S109))) (inner := [.int .i64 a1_0, .int .i64 a1_1]) (ok := fun _ => True) (okp := fun _ => True) ?hr ?hp (fun _ hk => hk) trivial (Below.refl _ _) (Nat.le_refl _) (by simp) ?_; (case hd => rfl); (case hg => rfl); (case hr => first | (go_simp; done) | (go_simp; rfl)); (case hp => exact (Reps.c2 (show Kd.M k109 _ _ _ (⟨a1_0, a1_1⟩ : S109) [.int .i64 a1_0, .int .i64 a1_1] from (k109_mkM _ _ _ (⟨a1_0, a1_1⟩ : S109) )) (Reps.none _ _)))
              intro v1025 w47 ho48 hb hg_ hnew_
              clear hg_ hnew_
              (first | rw [← Ny1024.out] at ho48 | (simp only [Int.reduceToNat] at ho48; rw [← Ny1024.out] at ho48))
              have n0_ := sk_' (Kd.R_elder' (rm HO1023) (Kd.R_base ho48) hb)
              have n1_ := sk_' (Kd.R_lower (Kd.R_newB (Kd.R_new' ho48 (Kd.R_lt (rm HO1023))) (g := gb987) (o := .cells #[.int .i64 a1_0, .int .i64 a1_1] 109 (0, 0)) (km BK987)) (ps_' (bm HB)))
              have n2_ := sk_' (blk_below (g := gb987) (o := .cells #[.int .i64 a1_0, .int .i64 a1_1] 109 (0, 0)) (km BK987) hb)
              have n3_ := sk_' (pp_' (bm HB) hb)
              clear HO1023
              clear BK987
              clear HB
              have HO1023 := n0_
              have HO1026 := n1_
              have BK987 := n2_
              have HB := n3_
              clear n0_ n1_ n2_ n3_
              clear hb ho48
              refine hK.out _ _ ⟨(kc_' BK987.out 0).trans rfl, (kc_' BK987.out 1).trans rfl⟩ (fun hHeld => ?_)
              clear hK K
              refine norm_ (a' := ?_) ?_ ?_
              rotate_left
              ·
               show Act.put _ (some 51) _ = _
               simp only [Act.put, sa_', sz_', sc_', i64_w, i32_w]
               rfl
              exact norm_ (by simp only [putAll, Act.put, sa_', sz_', sc_']) (hCont (v1015, v1022, v1025) _ ⟨hHeld, (by (with_reducible repeat (first | apply ra_' | apply rn_' | apply rd1_')); exact xi_' HO1023.out (fun _ hk => ⟨hk.2, hk.1⟩)), (by (with_reducible repeat (first | apply ra_' | apply rn_' | apply rd1_')); exact xi_' HO1026.out (fun _ hk => ⟨hk.1.2, hk.2⟩)), (km BK987), (bm HB)⟩)
             skip
             refine Kd.R_lit_step k109 _ 109 ?hg (N := 51) ?hd (xs := ([(⟨a1_0, a1_1⟩ : S109)] : List (S109))) (inner := [.int .i64 a1_0, .int .i64 a1_1]) (ok := fun _ => True) (okp := fun _ => True) ?hr ?hp (fun _ hk => hk) trivial (Below.refl _ _) (Nat.le_refl _) (by simp) ?_; (case hd => rfl); (case hg => rfl); (case hr => first | (go_simp; done) | (go_simp; rfl)); (case hp => exact (Reps.c2 (show Kd.M k109 _ _ _ (⟨a1_0, a1_1⟩ : S109) [.int .i64 a1_0, .int .i64 a1_1] from (k109_mkM _ _ _ (⟨a1_0, a1_1⟩ : S109) )) (Reps.none _ _)))
             intro v1025 w46 ho47 hb hg_ hnew_
             clear hg_ hnew_
             (first | rw [← Ny1024.out] at ho47 | (simp only [Int.reduceToNat] at ho47; rw [← Ny1024.out] at ho47))
             have n0_ := sk_' (Kd.R_elder' (rm HO1016) (Kd.R_base ho47) hb)
             have n1_ := sk_' (Kd.R_lower (Kd.R_newB (Kd.R_new' ho47 (Kd.R_lt (rm HO1016))) (g := gb987) (o := .cells #[.int .i64 a1_0, .int .i64 a1_1] 109 (0, 0)) (km BK987)) (ps_' (bm HB)))
             have n2_ := sk_' (blk_below (g := gb987) (o := .cells #[.int .i64 a1_0, .int .i64 a1_1] 109 (0, 0)) (km BK987) hb)
             have n3_ := sk_' (pp_' (bm HB) hb)
             clear HO1016
             clear BK987
             clear HB
             have HO1016 := n0_
             have HO1026 := n1_
             have BK987 := n2_
             have HB := n3_
             clear n0_ n1_ n2_ n3_
             clear hb ho47
             refine hK.out _ _ ⟨(kc_' BK987.out 0).trans rfl, (kc_' BK987.out 1).trans rfl⟩ (fun hHeld => ?_)
             clear hK K
             refine norm_ (a' := ?_) ?_ ?_
             rotate_left
             ·
              show Act.put _ (some 51) _ = _
              simp only [Act.put, sa_', sz_', sc_', i64_w, i32_w]
              rfl
             refine one_ (i := 4) (N := some 49) #[true, true, true, true, true, true, true, false, true, true, true, false, false] rfl rfl (one_of HT_.out (by kernel_rfl)) (by decide) (fun K hK => ?_)
             refine Kd.R_append_rows_step k109 (w0 := w) w.heap.size (by rfl) (.tmp 45) (.tmp 48) 37 109 (.agg #[(.int .i64 0), (.int .i64 0)]) 16 rfl Try.underlying37 info109 rfl (by decide) (by omega) v1015 y1014 y1017 _ _ _ (fun k_ => some k_ ≠ (v1025 : Value).ownBlock ∧ k_ ≠ gb987) (fun _ => False) rfl rfl ?aO ?aR (fun _ _ h => h) (fun _ h => h.elim) ?aF ?aB ?aS ?aL ?_
             (case aR => repeat (first | exact (Kd.C_below HR1020.out HB.out) | (with_reducible refine xg_' ?_ _) | (with_reducible refine xe_' ?_ _) | (with_reducible refine xf_' ?_)))
             (case aB => exact (bm HB))
             (case aF => exact (fun k_ hk => ⟨Kd.fresh' (Kd.R_lt (rm HO1026)) k_ hk, Kd.freshB (g := gb987) (o := .cells #[.int .i64 a1_0, .int .i64 a1_1] 109 (0, 0)) (km BK987) k_ hk⟩))
             (case aO => exact (by (with_reducible repeat (first | apply ra_' | apply rn_' | apply rd1_')); exact xi_' HO1016.out (fun _ hk => ⟨hk.2, hk.1.2⟩)))
             (case aS => exact (ps_' (bm HB)))
             (case aL => have := LMc35.out; omega)
             intro v1022 w48 ho hb hg hat
             rw [← Ny1021.out] at ho
             have n0_ := sk_' (blk_grown (g := gb987) (o := .cells #[.int .i64 a1_0, .int .i64 a1_1] 109 (0, 0)) (km BK987) hg (Kd.R_away HO1016.out (fun _ hk => hk.1.2)))
             have n1_ := sk_' (Kd.R_after (ok := (fun k_ => k_ ≠ gb987)) (by (with_reducible repeat (first | apply ra_' | apply rn_' | apply rd1_')); exact xi_' HO1026.out (fun _ hk => ⟨hk.2, hk.1.2⟩)) hg hat)
             have n2_ := sk_' (hb)
             have n3_ := sk_' (ho)
             clear BK987
             clear HO1026
             clear HB
             clear HO1016
             have BK987 := n0_
             have HO1026 := n1_
             have HB := n2_
             have HO1023 := n3_
             clear n0_ n1_ n2_ n3_
             clear ho hb hg hat
             refine hK.out _ _ ⟨(kc_' BK987.out 0).trans rfl, (kc_' BK987.out 1).trans rfl⟩ (fun hHeld => ?_)
             clear hK K
             refine norm_ (a' := ?_) ?_ ?_
             rotate_left
             ·
              show Act.put _ (some 49) _ = _
              simp only [Act.put, sa_', sz_', sc_', i64_w, i32_w]
              rfl
             exact norm_ (by simp only [putAll, Act.put, sa_', sz_', sc_']) (hCont (v1015, v1022, v1025) _ ⟨hHeld, (rm HO1023), (by (with_reducible repeat (first | apply ra_' | apply rn_' | apply rd1_')); exact xi_' HO1026.out (fun _ hk => ⟨hk.2, hk.1⟩)), (km BK987), (bm HB)⟩)
            skip
            refine Kd.R_lit_step k109 _ 109 ?hg (N := 51) ?hd (xs := ([(⟨a1_0, a1_1⟩ : S109)] : List (S109))) (inner := [.int .i64 a1_0, .int .i64 a1_1]) (ok := fun _ => True) (okp := fun _ => True) ?hr ?hp (fun _ hk => hk) trivial (Below.refl _ _) (Nat.le_refl _) (by simp) ?_; (case hd => rfl); (case hg => rfl); (case hr => first | (go_simp; done) | (go_simp; rfl)); (case hp => exact (Reps.c2 (show Kd.M k109 _ _ _ (⟨a1_0, a1_1⟩ : S109) [.int .i64 a1_0, .int .i64 a1_1] from (k109_mkM _ _ _ (⟨a1_0, a1_1⟩ : S109) )) (Reps.none _ _)))
            intro v1025 w44 ho45 hb hg_ hnew_
            clear hg_ hnew_
            (first | rw [← Ny1024.out] at ho45 | (simp only [Int.reduceToNat] at ho45; rw [← Ny1024.out] at ho45))
            have n0_ := sk_' (Kd.R_lower (Kd.R_newB ho45 (g := gb987) (o := .cells #[.int .i64 a1_0, .int .i64 a1_1] 109 (0, 0)) (km BK987)) (ps_' (bm HB)))
            have n1_ := sk_' (blk_below (g := gb987) (o := .cells #[.int .i64 a1_0, .int .i64 a1_1] 109 (0, 0)) (km BK987) hb)
            have n2_ := sk_' (pp_' (bm HB) hb)
            clear BK987
            clear HB
            have HO1026 := n0_
            have BK987 := n1_
            have HB := n2_
            clear n0_ n1_ n2_
            clear hb ho45
            refine hK.out _ _ ⟨(kc_' BK987.out 0).trans rfl, (kc_' BK987.out 1).trans rfl⟩ (fun hHeld => ?_)
            clear hK K
            refine norm_ (a' := ?_) ?_ ?_
            rotate_left
            ·
             show Act.put _ (some 51) _ = _
             simp only [Act.put, sa_', sz_', sc_', i64_w, i32_w]
             rfl
            refine one_ (i := 0) (N := some 45) #[true, true, true, true, false, true, true, false, true, true, true, false, false] rfl rfl (one_of HT_.out (by kernel_rfl)) (by decide) (fun K hK => ?_)
            refine Kd.R_lit_step k109 _ 109 ?hg (N := 45) ?hd (xs := ([] : List (S109))) (inner := []) (ok := fun _ => True) (okp := fun _ => True) ?hr ?hp (fun _ hk => hk) trivial (Below.refl _ _) (Nat.le_refl _) (by simp) ?_; (case hd => rfl); (case hg => rfl); (case hr => first | (go_simp; done) | (go_simp; rfl)); (case hp => exact (Reps.none _ _))
            intro v1015 w46 ho47 hb hg_ hnew_
            clear hg_ hnew_
            (first | rw [← Ny1014.out] at ho47 | (simp only [Int.reduceToNat] at ho47; rw [← Ny1014.out] at ho47))
            have n0_ := sk_' (Kd.R_elder' (rm HO1026) (Kd.R_base ho47) hb)
            have n1_ := sk_' (Kd.R_lower (Kd.R_newB (Kd.R_new' ho47 (Kd.R_lt (rm HO1026))) (g := gb987) (o := .cells #[.int .i64 a1_0, .int .i64 a1_1] 109 (0, 0)) (km BK987)) (ps_' (bm HB)))
            have n2_ := sk_' (blk_below (g := gb987) (o := .cells #[.int .i64 a1_0, .int .i64 a1_1] 109 (0, 0)) (km BK987) hb)
            have n3_ := sk_' (pp_' (bm HB) hb)
            clear HO1026
            clear BK987
            clear HB
            have HO1026 := n0_
            have HO1016 := n1_
            have BK987 := n2_
            have HB := n3_
            clear n0_ n1_ n2_ n3_
            clear hb ho47
            refine hK.out _ _ ⟨(kc_' BK987.out 0).trans rfl, (kc_' BK987.out 1).trans rfl⟩ (fun hHeld => ?_)
            clear hK K
            refine norm_ (a' := ?_) ?_ ?_
            rotate_left
            ·
             show Act.put _ (some 45) _ = _
             simp only [Act.put, sa_', sz_', sc_', i64_w, i32_w]
             rfl
            refine one_ (i := 4) (N := some 49) #[true, true, true, true, true, true, true, false, true, true, true, false, false] rfl rfl (one_of HT_.out (by kernel_rfl)) (by decide) (fun K hK => ?_)
            refine Kd.R_append_rows_step k109 (w0 := w) w.heap.size (by rfl) (.tmp 45) (.tmp 48) 37 109 (.agg #[(.int .i64 0), (.int .i64 0)]) 16 rfl Try.underlying37 info109 rfl (by decide) (by omega) v1015 y1014 y1017 _ _ _ (fun k_ => some k_ ≠ (v1025 : Value).ownBlock ∧ k_ ≠ gb987) (fun _ => False) rfl rfl ?aO ?aR (fun _ _ h => h) (fun _ h => h.elim) ?aF ?aB ?aS ?aL ?_
            (case aR => repeat (first | exact (Kd.C_below HR1020.out HB.out) | (with_reducible refine xg_' ?_ _) | (with_reducible refine xe_' ?_ _) | (with_reducible refine xf_' ?_)))
            (case aB => exact (bm HB))
            (case aF => exact (fun k_ hk => ⟨Kd.fresh' (Kd.R_lt (rm HO1026)) k_ hk, Kd.freshB (g := gb987) (o := .cells #[.int .i64 a1_0, .int .i64 a1_1] 109 (0, 0)) (km BK987) k_ hk⟩))
            (case aO => exact (by (with_reducible repeat (first | apply ra_' | apply rn_' | apply rd1_')); exact xi_' HO1016.out (fun _ hk => ⟨hk.1.2, hk.2⟩)))
            (case aS => exact (ps_' (bm HB)))
            (case aL => have := LMc35.out; omega)
            intro v1022 w48 ho hb hg hat
            rw [← Ny1021.out] at ho
            have n0_ := sk_' (blk_grown (g := gb987) (o := .cells #[.int .i64 a1_0, .int .i64 a1_1] 109 (0, 0)) (km BK987) hg (Kd.R_away HO1016.out (fun _ hk => hk.2)))
            have n1_ := sk_' (Kd.R_after (ok := (fun k_ => k_ ≠ gb987)) (by (with_reducible repeat (first | apply ra_' | apply rn_' | apply rd1_')); exact xi_' HO1026.out (fun _ hk => ⟨hk.1.2, hk.2⟩)) hg hat)
            have n2_ := sk_' (hb)
            have n3_ := sk_' (ho)
            clear BK987
            clear HO1026
            clear HB
            clear HO1016
            have BK987 := n0_
            have HO1026 := n1_
            have HB := n2_
            have HO1023 := n3_
            clear n0_ n1_ n2_ n3_
            clear ho hb hg hat
            refine hK.out _ _ ⟨(kc_' BK987.out 0).trans rfl, (kc_' BK987.out 1).trans rfl⟩ (fun hHeld => ?_)
            clear hK K
            refine norm_ (a' := ?_) ?_ ?_
            rotate_left
            ·
             show Act.put _ (some 49) _ = _
             simp only [Act.put, sa_', sz_', sc_', i64_w, i32_w]
             rfl
            exact norm_ (by simp only [putAll, Act.put, sa_', sz_', sc_']) (hCont (v1015, v1022, v1025) _ ⟨hHeld, (rm HO1023), (by (with_reducible repeat (first | apply ra_' | apply rn_' | apply rd1_')); exact xi_' HO1026.out (fun _ hk => ⟨hk.2, hk.1⟩)), (km BK987), (bm HB)⟩)
           rintro ⟨v1015, v1022, v1025⟩ w49 ⟨hS_, h0_, h1_, h2_, h3_⟩
           have n0_ : Aside0 (Kd.R k109 109 w49 w.heap.size (fun k_ => some k_ ≠ (v1025 : Value).ownBlock ∧ k_ ≠ gb987) v1022 y1021) := ⟨h0_⟩
           have n1_ : Aside0 (Kd.R k109 109 w49 w.heap.size (fun k_ => some k_ ≠ (v1022 : Value).ownBlock ∧ k_ ≠ gb987) v1025 y1024) := ⟨h1_⟩
           have n2_ : Aside0 (w49.heap[gb987]? = some (.cells #[.int .i64 a1_0, .int .i64 a1_1] 109 (0, 0))) := ⟨h2_⟩
           have n3_ : Aside0 (Below w.heap.size w w49) := ⟨h3_⟩
           clear BK987
           clear HB
           clear h0_ h1_ h2_ h3_
           have HO1023 := n0_
           have HO1026 := n1_
           have BK987 := n2_
           have HB := n3_
           clear n0_ n1_ n2_ n3_
           have hHeld : w49.cell? ⟨gb987, 0, none⟩ = some (.int .i64 a1_0) ∧ w49.cell? ⟨gb987, 1, none⟩ = some (.int .i64 a1_1) := hS_
           obtain ⟨Ao51, co51, eo51⟩ := Kd.R_slice HO1026.out
           (first | subst eo51 | (injection eo51 with f1_ f2_ f3_; have f4_ := f1_.symm; have f5_ := f3_.symm; clear f1_ f2_ f3_; subst f4_; subst f5_))
           refine norm_ (a' := ?_) ?_ ?_
           rotate_left
           ·
            simp only [putAll, Act.put, sa_', sz_', sc_']
            rfl
           refine one_ (i := 7) (N := some 52) #[true, true, true, true, true, true, true, true, true, true, true, false, false] rfl rfl (one_of HT_.out (by kernel_rfl)) (by decide) (fun K hK => ?_)
           refine Kd.R_append_rows_step k109 (w0 := w) w.heap.size (by rfl) (.tmp 49) (.tmp 51) 37 109 (.agg #[(.int .i64 0), (.int .i64 0)]) 16 rfl Try.underlying37 info109 rfl (by decide) (by omega) v1022 y1021 y1024 _ _ _ (fun k_ => some k_ ≠ (.slice Ao51 y1024.length co51 : Value).ownBlock ∧ k_ ≠ gb987) (fun _ => False) rfl rfl ?aO ?aR (fun _ _ h => h) (fun _ h => h.elim) ?aF ?aB ?aS ?aL ?_
           (case aR => repeat (first | exact (xr_' HO1026.out).2.2 | (with_reducible refine xg_' ?_ _) | (with_reducible refine xe_' ?_ _) | (with_reducible refine xf_' ?_)))
           (case aB => exact (bm HB))
           (case aF => exact (fun k_ hk => ⟨Kd.fresh' (Kd.R_lt (rm HO1026)) k_ hk, Kd.freshB (g := gb987) (o := .cells #[.int .i64 a1_0, .int .i64 a1_1] 109 (0, 0)) (km BK987) k_ hk⟩))
           (case aO => exact (rm HO1023))
           (case aS => exact (ps_' (bm HB)))
           (case aL => have := LMc36.out; omega)
           intro v1028 w50 ho hb hg hat
           rw [← Ny1027.out] at ho
           have n0_ := sk_' (blk_grown (g := gb987) (o := .cells #[.int .i64 a1_0, .int .i64 a1_1] 109 (0, 0)) (km BK987) hg (Kd.R_away HO1023.out (fun _ hk => hk.2)))
           have n1_ := sk_' (Kd.R_after (ok := (fun k_ => k_ ≠ gb987)) (by (with_reducible repeat (first | apply ra_' | apply rn_' | apply rd1_')); exact xi_' HO1026.out (fun _ hk => ⟨hk.2, hk.1⟩)) hg hat)
           have n2_ := sk_' (hb)
           have n3_ := sk_' (ho)
           clear BK987
           clear HO1026
           clear HB
           clear HO1023
           have BK987 := n0_
           have HO1026 := n1_
           have HB := n2_
           have HO1029 := n3_
           clear n0_ n1_ n2_ n3_
           clear ho hb hg hat
           refine hK.out _ _ ⟨(kc_' BK987.out 0).trans rfl, (kc_' BK987.out 1).trans rfl⟩ (fun hHeld => ?_)
           clear hK K
           refine norm_ (a' := ?_) ?_ ?_
           rotate_left
           ·
            show Act.put _ (some 52) _ = _
            simp only [Act.put, sa_', sz_', sc_', i64_w, i32_w]
            rfl
           refine one_ (i := 11) (N := some 56) #[true, true, true, true, true, true, true, true, true, true, true, true, false] rfl rfl (one_of HT_.out (by kernel_rfl)) (by decide) (fun K hK => ?_)
           refine Kd.R_append_rows_step k109 (w0 := w) w.heap.size (by rfl) (.tmp 52) (.tmp 55) 37 109 (.agg #[(.int .i64 0), (.int .i64 0)]) 16 rfl Try.underlying37 info109 rfl (by decide) (by omega) v1028 y1027 y1030 _ _ _ (fun k_ => some k_ ≠ (.slice Ao51 y1024.length co51 : Value).ownBlock ∧ k_ ≠ gb987) (fun _ => False) rfl rfl ?aO ?aR (fun _ _ h => h) (fun _ h => h.elim) ?aF ?aB ?aS ?aL ?_
           (case aR => repeat (first | exact (Kd.C_below HR1033.out HB.out) | (with_reducible refine xg_' ?_ _) | (with_reducible refine xe_' ?_ _) | (with_reducible refine xf_' ?_)))
           (case aB => exact (bm HB))
           (case aF => exact (fun k_ hk => ⟨Kd.fresh' (Kd.R_lt (rm HO1026)) k_ hk, Kd.freshB (g := gb987) (o := .cells #[.int .i64 a1_0, .int .i64 a1_1] 109 (0, 0)) (km BK987) k_ hk⟩))
           (case aO => exact (rm HO1029))
           (case aS => exact (ps_' (bm HB)))
           (case aL => have := LMc39.out; omega)
           intro v1035 w52 ho hb hg hat
           rw [← Ny1034.out] at ho
           have n0_ := sk_' (blk_grown (g := gb987) (o := .cells #[.int .i64 a1_0, .int .i64 a1_1] 109 (0, 0)) (km BK987) hg (Kd.R_away HO1029.out (fun _ hk => hk.2)))
           have n1_ := sk_' (Kd.R_after (ok := (fun k_ => k_ ≠ gb987)) (rm HO1026) hg hat)
           have n2_ := sk_' (hb)
           have n3_ := sk_' (ho)
           clear BK987
           clear HO1026
           clear HB
           clear HO1029
           have BK987 := n0_
           have HO1026 := n1_
           have HB := n2_
           have HO1036 := n3_
           clear n0_ n1_ n2_ n3_
           clear ho hb hg hat
           refine hK.out _ _ ⟨(kc_' BK987.out 0).trans rfl, (kc_' BK987.out 1).trans rfl⟩ (fun hHeld => ?_)
           clear hK K
           refine norm_ (a' := ?_) ?_ ?_
           rotate_left
           ·
            show Act.put _ (some 56) _ = _
            simp only [Act.put, sa_', sz_', sc_', i64_w, i32_w]
            rfl
           refine pure_ (i := 12) (N := some 4) (v := ?_) (a' := ?_) #[true, true, true, true, true, true, true, true, true, true, true, true, true] rfl rfl (any_of HT_.out (by kernel_rfl)) (fun _ _ _ h => h) (Or.inl ⟨by rfl, ?_⟩) ?_ ?_
           rotate_left
           ·
            intro w'
            go_simp
            with_reducible rfl
           rotate_left
           ·
            simp only [Act.put, sa_', sz_', sc_', i64_w, i32_w]
            rfl
           refine done_ (done_of HT_.out (by kernel_rfl)) ?_
           try go_wp2
           go_ret
           exact ⟨_, by first | rfl | (simp [errW_none, errW_some] <;> rfl) | (simp only [← hji5]; first | rfl | (simp [errW_none, errW_some] <;> rfl)) | (simp [*, errW_none, errW_some] <;> rfl), by (with_reducible repeat (first | apply ra_' | apply rn_' | apply rd1_')); exact xi_' HO1036.out (fun _ hk => trivial), bm HB⟩
          rw [if_neg c39] at H
          exact absurd H (by simp)
         rw [if_neg c36] at H
         exact absurd H (by simp)
        rw [if_neg c35] at H
        exact absurd H (by simp)
       rw [if_neg c34] at H
       exact absurd H (by simp)
      rw [if_neg c33] at H
      exact absurd H (by simp)
     rw [if_neg c7] at H
     exact absurd H (by simp)
    rw [if_neg c6] at H
    exact absurd H (by simp)
   rw [if_neg c4] at H
   have c4b0 : decide (0 < x5_1) = false := decide_eq_false c4
   clear c4
   obtain ⟨y1037, hy1037⟩ : ∃ y_ : List (S109), y_ = (([] : List (S109))) := ⟨_, rfl⟩
   replace H : (if 0 ≤ x5_1 then (if x5_1 ≤ (l0.length : Int) then ((some (l0.take (x5_1 : Int).toNat : List (S109))).bind fun y1040 => (if y1037.length + y1040.length < 8796093022208 then ((some (y1037 ++ y1040 : List (S109))).bind fun y1044 => ((some (([(⟨a1_0, a1_1⟩ : S109)] : List (S109)) : List (S109))).bind fun y1047 => (if y1044.length + y1047.length < 8796093022208 then ((some (y1044 ++ y1047 : List (S109))).bind fun y1050 => ((some (l0.drop (x5_1 : Int).toNat : List (S109))).bind fun y1053 => (if y1050.length + y1053.length < 8796093022208 then (some (y1050 ++ y1053)) else (none)))) else (none)))) else (none))) else (none)) else (none)) = some r := by first | (rw [hy1037]; with_reducible exact H) | (have H2_ := (Option.bind_some _ _).symm.trans H; rw [hy1037]; with_reducible exact H2_) | (have H2_ := (Option.bind_some _ _).symm.trans H; with_reducible exact H2_) | with_reducible exact H | (rw [hy1037]; exact H) | exact H
   have Ny1037 := sk_' hy1037
   clear hy1037
   by_cases c53 : 0 ≤ x5_1
   ·
    rw [if_pos c53] at H
    have c53b0 := eq_true c53
    have c53b1 : decide (0 ≤ x5_1) = true := decide_eq_true c53
    clear c53
    by_cases c54 : x5_1 ≤ (l0.length : Int)
    ·
     rw [if_pos c54] at H
     have c54b0 := eq_true c54
     have c54b1 : decide (x5_1 ≤ (l0.length : Int)) = true := decide_eq_true c54
     clear c54
     obtain ⟨y1040, hy1040⟩ : ∃ y_ : List (S109), y_ = (l0.take (x5_1 : Int).toNat) := ⟨_, rfl⟩
     replace H : (if y1037.length + y1040.length < 8796093022208 then ((some (y1037 ++ y1040 : List (S109))).bind fun y1044 => ((some (([(⟨a1_0, a1_1⟩ : S109)] : List (S109)) : List (S109))).bind fun y1047 => (if y1044.length + y1047.length < 8796093022208 then ((some (y1044 ++ y1047 : List (S109))).bind fun y1050 => ((some (l0.drop (x5_1 : Int).toNat : List (S109))).bind fun y1053 => (if y1050.length + y1053.length < 8796093022208 then (some (y1050 ++ y1053)) else (none)))) else (none)))) else (none)) = some r := by first | (rw [hy1040]; with_reducible exact H) | (have H2_ := (Option.bind_some _ _).symm.trans H; rw [hy1040]; with_reducible exact H2_) | (have H2_ := (Option.bind_some _ _).symm.trans H; with_reducible exact H2_) | with_reducible exact H | (rw [hy1040]; exact H) | exact H
     have Ny1040 := sk_' hy1040
     clear hy1040
     by_cases c55 : y1037.length + y1040.length < 8796093022208
     ·
      rw [if_pos c55] at H
      have LMc55 := sk_' c55
      clear c55
      obtain ⟨y1044, hy1044⟩ : ∃ y_ : List (S109), y_ = (y1037 ++ y1040) := ⟨_, rfl⟩
      replace H : ((some (([(⟨a1_0, a1_1⟩ : S109)] : List (S109)) : List (S109))).bind fun y1047 => (if y1044.length + y1047.length < 8796093022208 then ((some (y1044 ++ y1047 : List (S109))).bind fun y1050 => ((some (l0.drop (x5_1 : Int).toNat : List (S109))).bind fun y1053 => (if y1050.length + y1053.length < 8796093022208 then (some (y1050 ++ y1053)) else (none)))) else (none))) = some r := by first | (rw [hy1044]; with_reducible exact H) | (have H2_ := (Option.bind_some _ _).symm.trans H; rw [hy1044]; with_reducible exact H2_) | (have H2_ := (Option.bind_some _ _).symm.trans H; with_reducible exact H2_) | with_reducible exact H | (rw [hy1044]; exact H) | exact H
      have Ny1044 := sk_' hy1044
      clear hy1044
      obtain ⟨y1047, hy1047⟩ : ∃ y_ : List (S109), y_ = (([(⟨a1_0, a1_1⟩ : S109)] : List (S109))) := ⟨_, rfl⟩
      replace H : (if y1044.length + y1047.length < 8796093022208 then ((some (y1044 ++ y1047 : List (S109))).bind fun y1050 => ((some (l0.drop (x5_1 : Int).toNat : List (S109))).bind fun y1053 => (if y1050.length + y1053.length < 8796093022208 then (some (y1050 ++ y1053)) else (none)))) else (none)) = some r := by first | (rw [hy1047]; with_reducible exact H) | (have H2_ := (Option.bind_some _ _).symm.trans H; rw [hy1047]; with_reducible exact H2_) | (have H2_ := (Option.bind_some _ _).symm.trans H; with_reducible exact H2_) | with_reducible exact H | (rw [hy1047]; exact H) | exact H
      have Ny1047 := sk_' hy1047
      clear hy1047
      by_cases c56 : y1044.length + y1047.length < 8796093022208
      ·
       rw [if_pos c56] at H
       have LMc56 := sk_' c56
       clear c56
       obtain ⟨y1050, hy1050⟩ : ∃ y_ : List (S109), y_ = (y1044 ++ y1047) := ⟨_, rfl⟩
       replace H : ((some (l0.drop (x5_1 : Int).toNat : List (S109))).bind fun y1053 => (if y1050.length + y1053.length < 8796093022208 then (some (y1050 ++ y1053)) else (none))) = some r := by first | (rw [hy1050]; with_reducible exact H) | (have H2_ := (Option.bind_some _ _).symm.trans H; rw [hy1050]; with_reducible exact H2_) | (have H2_ := (Option.bind_some _ _).symm.trans H; with_reducible exact H2_) | with_reducible exact H | (rw [hy1050]; exact H) | exact H
       have Ny1050 := sk_' hy1050
       clear hy1050
       have c57b0 := eq_true (od_' (by first | (with_reducible assumption) | assumption) : 0 ≤ x5_1)
       have c58b0 := eq_true (od_' (by first | (with_reducible assumption) | assumption) : x5_1 ≤ (l0.length : Int))
       obtain ⟨y1053, hy1053⟩ : ∃ y_ : List (S109), y_ = (l0.drop (x5_1 : Int).toNat) := ⟨_, rfl⟩
       replace H : (if y1050.length + y1053.length < 8796093022208 then (some (y1050 ++ y1053)) else (none)) = some r := by first | (rw [hy1053]; with_reducible exact H) | (have H2_ := (Option.bind_some _ _).symm.trans H; rw [hy1053]; with_reducible exact H2_) | (have H2_ := (Option.bind_some _ _).symm.trans H; with_reducible exact H2_) | with_reducible exact H | (rw [hy1053]; exact H) | exact H
       have Ny1053 := sk_' hy1053
       clear hy1053
       by_cases c59 : y1050.length + y1053.length < 8796093022208
       ·
        rw [if_pos c59] at H
        have LMc59 := sk_' c59
        clear c59
        obtain ⟨y1057, hy1057⟩ : ∃ y_ : List (S109), y_ = (y1050 ++ y1053) := ⟨_, rfl⟩
        replace H : (some y1057) = some r := by first | (rw [hy1057]; with_reducible exact H) | (have H2_ := (Option.bind_some _ _).symm.trans H; rw [hy1057]; with_reducible exact H2_) | (have H2_ := (Option.bind_some _ _).symm.trans H; with_reducible exact H2_) | with_reducible exact H | (rw [hy1057]; exact H) | exact H
        have Ny1057 := sk_' hy1057
        clear hy1057
        obtain rfl := Option.some.inj H
        try go_wp2
        have n0_ := sk_' (kd_' BK987.out)
        have n1_ := sk_' (pd_' HB.out)
        clear BK987
        clear HB
        have BK987 := n0_
        have HB := n1_
        clear n0_ n1_
        have hq0_ : True := trivial
        go_quiet (fail)
        have nBK987_ := sk_' (kn_' (w := wr) BK987.out nq)
        have nHB_ := sk_' (pn_' (W := wr) ⟨HB.out.os, HB.out.tape, HB.out.output, HB.out.size, HB.out.block⟩ nq)
        clear BK987 HB hq0_
        have BK987 := nBK987_
        have HB := nHB_
        clear nBK987_ nHB_
        generalize wr.drewN nq = w60 at BK987 HB ⊢
        try go_wp2
        have n0_ := sk_' (kd_' BK987.out)
        have n1_ := sk_' (pd_' HB.out)
        clear BK987
        clear HB
        have BK987 := n0_
        have HB := n1_
        clear n0_ n1_
        have q62 : (x5_1 : Int) ≤ ((l0.length : Int) : Int) := od_' (by first | (with_reducible assumption) | assumption)
        obtain ⟨i062, hi062, _, hsz62, _⟩ := info_parts info109
        have hroom62 : l0.length ≤ c0 := HC0.out
        have hC62 : Kd.C k109 _ A0 l0.length l0 := HR0.out
        have hcut62 := cut_to (P := Try.prog) 37 109 .i64 Try.underlying37 hi062 A0 l0.length c0 x5_1 (od_' (by first | (with_reducible assumption) | assumption)) q62 hroom62
        have hr62 := Kd.C_take (m := (x5_1 : Int).toNat) hC62 (by omega)
        have hy62 : y1040.length = (x5_1 : Int).toNat := (by rw [Ny1040.out, xt_']; omega)
        rw [← Ny1040.out] at hr62
        rw [← hy62] at hcut62
        have HR1043 := sk_' hr62
        have HC1043 := sk_' (show y1040.length ≤ c0 from by omega)
        clear hr62 hC62 hroom62 hi062 hsz62
        have KY62 := sk_' hy62
        clear hy62
        replace q62 := eq_true q62
        have q63 : (x5_1 : Int) ≤ ((l0.length : Int) : Int) := od_' (by first | (with_reducible assumption) | assumption)
        obtain ⟨i063, hi063, _, hsz63, _⟩ := info_parts info109
        have hroom63 : l0.length ≤ c0 := HC0.out
        have hC63 : Kd.C k109 _ A0 l0.length l0 := HR0.out
        have q063 : (0 : Int) ≤ (x5_1 : Int) := od_' (by first | (with_reducible assumption) | assumption)
        have hcut63 := cut_from (P := Try.prog) 37 109 .i64 Try.underlying37 hi063 2 hsz63 A0 l0.length c0 x5_1 q063 q63
        have hr63 := Kd.C_drop (m := (x5_1 : Int).toNat) (c := c0) hC63 (by omega) hroom63
        obtain ⟨A63, hA63⟩ : ∃ A1, A1 = (if c0 = (x5_1 : Int).toNat then A0 else (A0 : Option Addr).map (·.add ((x5_1 : Int).toNat * 2))) := ⟨_, rfl⟩
        obtain ⟨c63, hc63⟩ : ∃ c1, c1 = c0 - (x5_1 : Int).toNat := ⟨_, rfl⟩
        have hy63 : y1053.length = l0.length - (x5_1 : Int).toNat := (by rw [Ny1053.out, xd_'] <;> omega)
        rw [show (l0).drop (x5_1 : Int).toNat = y1053 from Ny1053.out.symm] at hr63
        replace hr63 : Kd.C k109 _ A63 y1053.length y1053 := (by rw [hA63]; exact hr63)
        rw [← hy63, ← hA63, ← hc63] at hcut63
        have HR1056 := sk_' hr63
        have HC1056 := sk_' (show y1053.length ≤ c63 from by rw [hy63, hc63]; exact Nat.sub_le_sub_right hroom63 _)
        clear hr63 hC63 hroom63 hi063 hsz63 hc63
        have KY63 := sk_' hy63
        have KA63 := sk_' hA63
        clear hy63 hA63
        replace q63 := eq_true q63
        refine start_ (n := 13) (S := fun w' => w'.cell? ⟨gb987, 0, none⟩ = some (.int .i64 a1_0) ∧ w'.cell? ⟨gb987, 1, none⟩ = some (.int .i64 a1_1)) (ds := []) #[false, false, false, false, false, false, false, false, false, false, false, false, false] (by kernel_rfl) rfl rfl ⟨(kc_' BK987.out 0).trans rfl, (kc_' BK987.out 1).trans rfl⟩ (fun hHeld => ?_); refine with_tabW spec_l14Put.tab4 spec_l14Put.bits4 (fun HT_ HW_ => ?_)
        generalize w60.drew = w61 at BK987 HB HR1043 HR1056 hHeld ⊢
        refine pure_ (i := 1) (N := some 46) (v := ?_) (a' := ?_) #[false, true, false, false, false, false, false, false, false, false, false, false, false] rfl rfl (any_of HT_.out (by kernel_rfl)) (fun _ _ _ h => h) (Or.inl ⟨by rfl, ?_⟩) ?_ ?_
        rotate_left
        ·
         intro w'
         go_simp
         with_reducible rfl
        rotate_left
        ·
         simp only [Act.put, sa_', sz_', sc_', i64_w, i32_w]
         rfl
        refine pure_ (i := 2) (N := some 47) (v := ?_) (a' := ?_) #[false, true, true, false, false, false, false, false, false, false, false, false, false] rfl rfl (any_of HT_.out (by kernel_rfl)) (fun _ _ _ h => h) (Or.inl ⟨by rfl, ?_⟩) ?_ ?_
        rotate_left
        ·
         intro w'
         go_simp
         with_reducible rfl
        rotate_left
        ·
         simp only [Act.put, sa_', sz_', sc_', i64_w, i32_w]
         rfl
        refine pure_ (i := 3) (N := some 48) (v := ?_) (a' := ?_) #[false, true, true, true, false, false, false, false, false, false, false, false, false] rfl rfl (any_of HT_.out (by kernel_rfl)) (fun _ _ _ h => h) (Or.inl ⟨by rfl, ?_⟩) ?_ ?_
        rotate_left
        ·
         intro w'
         go_simp
         with_reducible rfl
        rotate_left
        ·
         simp only [Act.put, sa_', sz_', sc_', i64_w, i32_w]
         rfl
        refine pure_ (i := 8) (N := some 53) (v := ?_) (a' := ?_) #[false, true, true, true, false, false, false, false, true, false, false, false, false] rfl rfl (any_of HT_.out (by kernel_rfl)) (fun _ _ _ h => h) (Or.inl ⟨by rfl, ?_⟩) ?_ ?_
        rotate_left
        ·
         intro w'
         go_simp
         with_reducible rfl
        rotate_left
        ·
         simp only [Act.put, sa_', sz_', sc_', i64_w, i32_w]
         rfl
        refine pure_ (i := 9) (N := some 54) (v := ?_) (a' := ?_) #[false, true, true, true, false, false, false, false, true, true, false, false, false] rfl rfl (any_of HT_.out (by kernel_rfl)) (fun _ _ _ h => h) (Or.inl ⟨by rfl, ?_⟩) ?_ ?_
        rotate_left
        ·
         intro w'
         go_simp
         with_reducible rfl
        rotate_left
        ·
         simp only [Act.put, sa_', sz_', sc_', i64_w, i32_w]
         rfl
        refine pure_ (i := 10) (N := some 55) (v := ?_) (a' := ?_) #[false, true, true, true, false, false, false, false, true, true, true, false, false] rfl rfl (any_of HT_.out (by kernel_rfl)) (fun _ _ _ h => h) (Or.inl ⟨by rfl, ?_⟩) ?_ ?_
        rotate_left
        ·
         intro w'
         go_simp
         with_reducible rfl
        rotate_left
        ·
         simp only [Act.put, sa_', sz_', sc_', i64_w, i32_w]
         rfl
        refine take_ (i := 5) (N := some 50) (v := ?_) (a' := ?_) #[false, true, true, true, false, true, false, false, true, true, true, false, false] rfl rfl (take_ofW HT_.out HW_.out (by kernel_rfl)) (fun _ _ _ h => h) (Or.inl ⟨by rfl, ?_⟩) hHeld ?_ ?_
        rotate_left
        ·
         rintro w' ⟨s0, s1⟩
         go_simp
         with_reducible rfl
        rotate_left
        ·
         simp only [Act.put, sa_', sz_', sc_', i64_w, i32_w]
         rfl
        refine join_ (σ := Value × Value × Value) 3 #[true, true, true, true, true, true, true, false, true, true, true, false, false] (fun s_ => [(45, s_.1), (49, s_.2.1), (51, s_.2.2)]) (fun s_ w' => (w'.cell? ⟨gb987, 0, none⟩ = some (.int .i64 a1_0) ∧ w'.cell? ⟨gb987, 1, none⟩ = some (.int .i64 a1_1)) ∧ (Kd.R k109 109 w' w.heap.size (fun k_ => some k_ ≠ (s_.2.2 : Value).ownBlock ∧ k_ ≠ gb987) s_.2.1 y1044) ∧ (Kd.R k109 109 w' w.heap.size (fun k_ => some k_ ≠ (s_.2.1 : Value).ownBlock ∧ k_ ≠ gb987) s_.2.2 y1047) ∧ (w'.heap[gb987]? = some (.cells #[.int .i64 a1_0, .int .i64 a1_1] 109 (0, 0))) ∧ (Below w.heap.size w w')) ?_ ?_
        rotate_left
        ·
         intro hCont
         refine two_ (i := 0) (j := 6) (Ni := some 45) (Nj := some 51) #[true, true, true, true, false, true, false, false, true, true, true, false, false] #[false, true, true, true, false, true, true, false, true, true, true, false, false] rfl rfl rfl rfl (two_of HT_.out (by kernel_rfl)) (by decide) (by decide) (fun K hK => ?_) (fun K hK => ?_)
         ·
          skip
          refine Kd.R_lit_step k109 _ 109 ?hg (N := 45) ?hd (xs := ([] : List (S109))) (inner := []) (ok := fun _ => True) (okp := fun _ => True) ?hr ?hp (fun _ hk => hk) trivial (Below.refl _ _) (Nat.le_refl _) (by simp) ?_; (case hd => rfl); (case hg => rfl); (case hr => first | (go_simp; done) | (go_simp; rfl)); (case hp => exact (Reps.none _ _))
          intro v1038 w64 ho65 hb hg_ hnew_
          clear hg_ hnew_
          (first | rw [← Ny1037.out] at ho65 | (simp only [Int.reduceToNat] at ho65; rw [← Ny1037.out] at ho65))
          have n0_ := sk_' (Kd.R_lower (Kd.R_newB ho65 (g := gb987) (o := .cells #[.int .i64 a1_0, .int .i64 a1_1] 109 (0, 0)) (km BK987)) (ps_' (bm HB)))
          have n1_ := sk_' (blk_below (g := gb987) (o := .cells #[.int .i64 a1_0, .int .i64 a1_1] 109 (0, 0)) (km BK987) hb)
          have n2_ := sk_' (pp_' (bm HB) hb)
          clear BK987
          clear HB
          have HO1039 := n0_
          have BK987 := n1_
          have HB := n2_
          clear n0_ n1_ n2_
          clear hb ho65
          refine hK.out _ _ ⟨(kc_' BK987.out 0).trans rfl, (kc_' BK987.out 1).trans rfl⟩ (fun hHeld => ?_)
          clear hK K
          refine norm_ (a' := ?_) ?_ ?_
          rotate_left
          ·
           show Act.put _ (some 45) _ = _
           simp only [Act.put, sa_', sz_', sc_', i64_w, i32_w]
           rfl
          refine two_ (i := 4) (j := 6) (Ni := some 49) (Nj := some 51) #[true, true, true, true, true, true, false, false, true, true, true, false, false] #[true, true, true, true, false, true, true, false, true, true, true, false, false] rfl rfl rfl rfl (two_of HT_.out (by kernel_rfl)) (by decide) (by decide) (fun K hK => ?_) (fun K hK => ?_)
          ·
           skip
           refine Kd.R_append_rows_step k109 (w0 := w) w.heap.size (by rfl) (.tmp 45) (.tmp 48) 37 109 (.agg #[(.int .i64 0), (.int .i64 0)]) 16 rfl Try.underlying37 info109 rfl (by decide) (by omega) v1038 y1037 y1040 _ _ _ (fun k_ => k_ ≠ gb987) (fun _ => False) rfl rfl ?aO ?aR (fun _ _ h => h) (fun _ h => h.elim) ?aF ?aB ?aS ?aL ?_
           (case aR => repeat (first | exact (Kd.C_below HR1043.out HB.out) | (with_reducible refine xg_' ?_ _) | (with_reducible refine xe_' ?_ _) | (with_reducible refine xf_' ?_)))
           (case aB => exact (bm HB))
           (case aF => exact (fun k_ hk => Kd.freshB (g := gb987) (o := .cells #[.int .i64 a1_0, .int .i64 a1_1] 109 (0, 0)) (km BK987) k_ hk))
           (case aO => exact (by (with_reducible repeat (first | apply ra_' | apply rn_' | apply rd1_')); exact xi_' HO1039.out (fun _ hk => hk.2)))
           (case aS => exact (ps_' (bm HB)))
           (case aL => have := LMc55.out; omega)
           intro v1045 w66 ho hb hg hat
           rw [← Ny1044.out] at ho
           have n0_ := sk_' (blk_grown (g := gb987) (o := .cells #[.int .i64 a1_0, .int .i64 a1_1] 109 (0, 0)) (km BK987) hg (Kd.R_away HO1039.out (fun _ hk => hk.2)))
           have n1_ := sk_' (hb)
           have n2_ := sk_' (ho)
           clear BK987
           clear HB
           clear HO1039
           have BK987 := n0_
           have HB := n1_
           have HO1046 := n2_
           clear n0_ n1_ n2_
           clear ho hb hg hat
           refine hK.out _ _ ⟨(kc_' BK987.out 0).trans rfl, (kc_' BK987.out 1).trans rfl⟩ (fun hHeld => ?_)
           clear hK K
           refine norm_ (a' := ?_) ?_ ?_
           rotate_left
           ·
            show Act.put _ (some 49) _ = _
            simp only [Act.put, sa_', sz_', sc_', i64_w, i32_w]
            rfl
           refine one_ (i := 6) (N := some 51) #[true, true, true, true, true, true, true, false, true, true, true, false, false] rfl rfl (one_of HT_.out (by kernel_rfl)) (by decide) (fun K hK => ?_)
           refine Kd.R_lit_step k109 _ 109 ?hg (N := 51) ?hd (xs := ([(⟨a1_0, a1_1⟩ : S109)] : List (S109))) (inner := [.int .i64 a1_0, .int .i64 a1_1]) (ok := fun _ => True) (okp := fun _ => True) ?hr ?hp (fun _ hk => hk) trivial (Below.refl _ _) (Nat.le_refl _) (by simp) ?_; (case hd => rfl); (case hg => rfl); (case hr => first | (go_simp; done) | (go_simp; rfl)); (case hp => exact (Reps.c2 (show Kd.M k109 _ _ _ (⟨a1_0, a1_1⟩ : S109) [.int .i64 a1_0, .int .i64 a1_1] from (k109_mkM _ _ _ (⟨a1_0, a1_1⟩ : S109) )) (Reps.none _ _)))
           intro v1048 w67 ho68 hb hg_ hnew_
           clear hg_ hnew_
           (first | rw [← Ny1047.out] at ho68 | (simp only [Int.reduceToNat] at ho68; rw [← Ny1047.out] at ho68))
           have n0_ := sk_' (Kd.R_elder' (rm HO1046) (Kd.R_base ho68) hb)
           have n1_ := sk_' (Kd.R_lower (Kd.R_newB (Kd.R_new' ho68 (Kd.R_lt (rm HO1046))) (g := gb987) (o := .cells #[.int .i64 a1_0, .int .i64 a1_1] 109 (0, 0)) (km BK987)) (ps_' (bm HB)))
           have n2_ := sk_' (blk_below (g := gb987) (o := .cells #[.int .i64 a1_0, .int .i64 a1_1] 109 (0, 0)) (km BK987) hb)
           have n3_ := sk_' (pp_' (bm HB) hb)
           clear HO1046
           clear BK987
           clear HB
           have HO1046 := n0_
           have HO1049 := n1_
           have BK987 := n2_
           have HB := n3_
           clear n0_ n1_ n2_ n3_
           clear hb ho68
           refine hK.out _ _ ⟨(kc_' BK987.out 0).trans rfl, (kc_' BK987.out 1).trans rfl⟩ (fun hHeld => ?_)
           clear hK K
           refine norm_ (a' := ?_) ?_ ?_
           rotate_left
           ·
            show Act.put _ (some 51) _ = _
            simp only [Act.put, sa_', sz_', sc_', i64_w, i32_w]
            rfl
           exact norm_ (by simp only [putAll, Act.put, sa_', sz_', sc_']) (hCont (v1038, v1045, v1048) _ ⟨hHeld, (by (with_reducible repeat (first | apply ra_' | apply rn_' | apply rd1_')); exact xi_' HO1046.out (fun _ hk => ⟨hk.2, hk.1⟩)), (by (with_reducible repeat (first | apply ra_' | apply rn_' | apply rd1_')); exact xi_' HO1049.out (fun _ hk => ⟨hk.1.2, hk.2⟩)), (km BK987), (bm HB)⟩)
          skip
          refine Kd.R_lit_step k109 _ 109 ?hg (N := 51) ?hd (xs := ([(⟨a1_0, a1_1⟩ : S109)] : List (S109))) (inner := [.int .i64 a1_0, .int .i64 a1_1]) (ok := fun _ => True) (okp := fun _ => True) ?hr ?hp (fun _ hk => hk) trivial (Below.refl _ _) (Nat.le_refl _) (by simp) ?_; (case hd => rfl); (case hg => rfl); (case hr => first | (go_simp; done) | (go_simp; rfl)); (case hp => exact (Reps.c2 (show Kd.M k109 _ _ _ (⟨a1_0, a1_1⟩ : S109) [.int .i64 a1_0, .int .i64 a1_1] from (k109_mkM _ _ _ (⟨a1_0, a1_1⟩ : S109) )) (Reps.none _ _)))
          intro v1048 w66 ho67 hb hg_ hnew_
          clear hg_ hnew_
          (first | rw [← Ny1047.out] at ho67 | (simp only [Int.reduceToNat] at ho67; rw [← Ny1047.out] at ho67))
          have n0_ := sk_' (Kd.R_elder' (rm HO1039) (Kd.R_base ho67) hb)
          have n1_ := sk_' (Kd.R_lower (Kd.R_newB (Kd.R_new' ho67 (Kd.R_lt (rm HO1039))) (g := gb987) (o := .cells #[.int .i64 a1_0, .int .i64 a1_1] 109 (0, 0)) (km BK987)) (ps_' (bm HB)))
          have n2_ := sk_' (blk_below (g := gb987) (o := .cells #[.int .i64 a1_0, .int .i64 a1_1] 109 (0, 0)) (km BK987) hb)
          have n3_ := sk_' (pp_' (bm HB) hb)
          clear HO1039
          clear BK987
          clear HB
          have HO1039 := n0_
          have HO1049 := n1_
          have BK987 := n2_
          have HB := n3_
          clear n0_ n1_ n2_ n3_
          clear hb ho67
          refine hK.out _ _ ⟨(kc_' BK987.out 0).trans rfl, (kc_' BK987.out 1).trans rfl⟩ (fun hHeld => ?_)
          clear hK K
          refine norm_ (a' := ?_) ?_ ?_
          rotate_left
          ·
           show Act.put _ (some 51) _ = _
           simp only [Act.put, sa_', sz_', sc_', i64_w, i32_w]
           rfl
          refine one_ (i := 4) (N := some 49) #[true, true, true, true, true, true, true, false, true, true, true, false, false] rfl rfl (one_of HT_.out (by kernel_rfl)) (by decide) (fun K hK => ?_)
          refine Kd.R_append_rows_step k109 (w0 := w) w.heap.size (by rfl) (.tmp 45) (.tmp 48) 37 109 (.agg #[(.int .i64 0), (.int .i64 0)]) 16 rfl Try.underlying37 info109 rfl (by decide) (by omega) v1038 y1037 y1040 _ _ _ (fun k_ => some k_ ≠ (v1048 : Value).ownBlock ∧ k_ ≠ gb987) (fun _ => False) rfl rfl ?aO ?aR (fun _ _ h => h) (fun _ h => h.elim) ?aF ?aB ?aS ?aL ?_
          (case aR => repeat (first | exact (Kd.C_below HR1043.out HB.out) | (with_reducible refine xg_' ?_ _) | (with_reducible refine xe_' ?_ _) | (with_reducible refine xf_' ?_)))
          (case aB => exact (bm HB))
          (case aF => exact (fun k_ hk => ⟨Kd.fresh' (Kd.R_lt (rm HO1049)) k_ hk, Kd.freshB (g := gb987) (o := .cells #[.int .i64 a1_0, .int .i64 a1_1] 109 (0, 0)) (km BK987) k_ hk⟩))
          (case aO => exact (by (with_reducible repeat (first | apply ra_' | apply rn_' | apply rd1_')); exact xi_' HO1039.out (fun _ hk => ⟨hk.2, hk.1.2⟩)))
          (case aS => exact (ps_' (bm HB)))
          (case aL => have := LMc55.out; omega)
          intro v1045 w68 ho hb hg hat
          rw [← Ny1044.out] at ho
          have n0_ := sk_' (blk_grown (g := gb987) (o := .cells #[.int .i64 a1_0, .int .i64 a1_1] 109 (0, 0)) (km BK987) hg (Kd.R_away HO1039.out (fun _ hk => hk.1.2)))
          have n1_ := sk_' (Kd.R_after (ok := (fun k_ => k_ ≠ gb987)) (by (with_reducible repeat (first | apply ra_' | apply rn_' | apply rd1_')); exact xi_' HO1049.out (fun _ hk => ⟨hk.2, hk.1.2⟩)) hg hat)
          have n2_ := sk_' (hb)
          have n3_ := sk_' (ho)
          clear BK987
          clear HO1049
          clear HB
          clear HO1039
          have BK987 := n0_
          have HO1049 := n1_
          have HB := n2_
          have HO1046 := n3_
          clear n0_ n1_ n2_ n3_
          clear ho hb hg hat
          refine hK.out _ _ ⟨(kc_' BK987.out 0).trans rfl, (kc_' BK987.out 1).trans rfl⟩ (fun hHeld => ?_)
          clear hK K
          refine norm_ (a' := ?_) ?_ ?_
          rotate_left
          ·
           show Act.put _ (some 49) _ = _
           simp only [Act.put, sa_', sz_', sc_', i64_w, i32_w]
           rfl
          exact norm_ (by simp only [putAll, Act.put, sa_', sz_', sc_']) (hCont (v1038, v1045, v1048) _ ⟨hHeld, (rm HO1046), (by (with_reducible repeat (first | apply ra_' | apply rn_' | apply rd1_')); exact xi_' HO1049.out (fun _ hk => ⟨hk.2, hk.1⟩)), (km BK987), (bm HB)⟩)
         skip
         refine Kd.R_lit_step k109 _ 109 ?hg (N := 51) ?hd (xs := ([(⟨a1_0, a1_1⟩ : S109)] : List (S109))) (inner := [.int .i64 a1_0, .int .i64 a1_1]) (ok := fun _ => True) (okp := fun _ => True) ?hr ?hp (fun _ hk => hk) trivial (Below.refl _ _) (Nat.le_refl _) (by simp) ?_; (case hd => rfl); (case hg => rfl); (case hr => first | (go_simp; done) | (go_simp; rfl)); (case hp => exact (Reps.c2 (show Kd.M k109 _ _ _ (⟨a1_0, a1_1⟩ : S109) [.int .i64 a1_0, .int .i64 a1_1] from (k109_mkM _ _ _ (⟨a1_0, a1_1⟩ : S109) )) (Reps.none _ _)))
         intro v1048 w64 ho65 hb hg_ hnew_
         clear hg_ hnew_
         (first | rw [← Ny1047.out] at ho65 | (simp only [Int.reduceToNat] at ho65; rw [← Ny1047.out] at ho65))
         have n0_ := sk_' (Kd.R_lower (Kd.R_newB ho65 (g := gb987) (o := .cells #[.int .i64 a1_0, .int .i64 a1_1] 109 (0, 0)) (km BK987)) (ps_' (bm HB)))
         have n1_ := sk_' (blk_below (g := gb987) (o := .cells #[.int .i64 a1_0, .int .i64 a1_1] 109 (0, 0)) (km BK987) hb)
         have n2_ := sk_' (pp_' (bm HB) hb)
         clear BK987
         clear HB
         have HO1049 := n0_
         have BK987 := n1_
         have HB := n2_
         clear n0_ n1_ n2_
         clear hb ho65
         refine hK.out _ _ ⟨(kc_' BK987.out 0).trans rfl, (kc_' BK987.out 1).trans rfl⟩ (fun hHeld => ?_)
         clear hK K
         refine norm_ (a' := ?_) ?_ ?_
         rotate_left
         ·
          show Act.put _ (some 51) _ = _
          simp only [Act.put, sa_', sz_', sc_', i64_w, i32_w]
          rfl
         refine one_ (i := 0) (N := some 45) #[true, true, true, true, false, true, true, false, true, true, true, false, false] rfl rfl (one_of HT_.out (by kernel_rfl)) (by decide) (fun K hK => ?_)
         refine Kd.R_lit_step k109 _ 109 ?hg (N := 45) ?hd (xs := ([] : List (S109))) (inner := []) (ok := fun _ => True) (okp := fun _ => True) ?hr ?hp (fun _ hk => hk) trivial (Below.refl _ _) (Nat.le_refl _) (by simp) ?_; (case hd => rfl); (case hg => rfl); (case hr => first | (go_simp; done) | (go_simp; rfl)); (case hp => exact (Reps.none _ _))
         intro v1038 w66 ho67 hb hg_ hnew_
         clear hg_ hnew_
         (first | rw [← Ny1037.out] at ho67 | (simp only [Int.reduceToNat] at ho67; rw [← Ny1037.out] at ho67))
         have n0_ := sk_' (Kd.R_elder' (rm HO1049) (Kd.R_base ho67) hb)
         have n1_ := sk_' (Kd.R_lower (Kd.R_newB (Kd.R_new' ho67 (Kd.R_lt (rm HO1049))) (g := gb987) (o := .cells #[.int .i64 a1_0, .int .i64 a1_1] 109 (0, 0)) (km BK987)) (ps_' (bm HB)))
         have n2_ := sk_' (blk_below (g := gb987) (o := .cells #[.int .i64 a1_0, .int .i64 a1_1] 109 (0, 0)) (km BK987) hb)
         have n3_ := sk_' (pp_' (bm HB) hb)
         clear HO1049
         clear BK987
         clear HB
         have HO1049 := n0_
         have HO1039 := n1_
         have BK987 := n2_
         have HB := n3_
         clear n0_ n1_ n2_ n3_
         clear hb ho67
         refine hK.out _ _ ⟨(kc_' BK987.out 0).trans rfl, (kc_' BK987.out 1).trans rfl⟩ (fun hHeld => ?_)
         clear hK K
         refine norm_ (a' := ?_) ?_ ?_
         rotate_left
         ·
          show Act.put _ (some 45) _ = _
          simp only [Act.put, sa_', sz_', sc_', i64_w, i32_w]
          rfl
         refine one_ (i := 4) (N := some 49) #[true, true, true, true, true, true, true, false, true, true, true, false, false] rfl rfl (one_of HT_.out (by kernel_rfl)) (by decide) (fun K hK => ?_)
         refine Kd.R_append_rows_step k109 (w0 := w) w.heap.size (by rfl) (.tmp 45) (.tmp 48) 37 109 (.agg #[(.int .i64 0), (.int .i64 0)]) 16 rfl Try.underlying37 info109 rfl (by decide) (by omega) v1038 y1037 y1040 _ _ _ (fun k_ => some k_ ≠ (v1048 : Value).ownBlock ∧ k_ ≠ gb987) (fun _ => False) rfl rfl ?aO ?aR (fun _ _ h => h) (fun _ h => h.elim) ?aF ?aB ?aS ?aL ?_
         (case aR => repeat (first | exact (Kd.C_below HR1043.out HB.out) | (with_reducible refine xg_' ?_ _) | (with_reducible refine xe_' ?_ _) | (with_reducible refine xf_' ?_)))
         (case aB => exact (bm HB))
         (case aF => exact (fun k_ hk => ⟨Kd.fresh' (Kd.R_lt (rm HO1049)) k_ hk, Kd.freshB (g := gb987) (o := .cells #[.int .i64 a1_0, .int .i64 a1_1] 109 (0, 0)) (km BK987) k_ hk⟩))
         (case aO => exact (by (with_reducible repeat (first | apply ra_' | apply rn_' | apply rd1_')); exact xi_' HO1039.out (fun _ hk => ⟨hk.1.2, hk.2⟩)))
         (case aS => exact (ps_' (bm HB)))
         (case aL => have := LMc55.out; omega)
         intro v1045 w68 ho hb hg hat
         rw [← Ny1044.out] at ho
         have n0_ := sk_' (blk_grown (g := gb987) (o := .cells #[.int .i64 a1_0, .int .i64 a1_1] 109 (0, 0)) (km BK987) hg (Kd.R_away HO1039.out (fun _ hk => hk.2)))
         have n1_ := sk_' (Kd.R_after (ok := (fun k_ => k_ ≠ gb987)) (by (with_reducible repeat (first | apply ra_' | apply rn_' | apply rd1_')); exact xi_' HO1049.out (fun _ hk => ⟨hk.1.2, hk.2⟩)) hg hat)
         have n2_ := sk_' (hb)
         have n3_ := sk_' (ho)
         clear BK987
         clear HO1049
         clear HB
         clear HO1039
         have BK987 := n0_
         have HO1049 := n1_
         have HB := n2_
         have HO1046 := n3_
         clear n0_ n1_ n2_ n3_
         clear ho hb hg hat
         refine hK.out _ _ ⟨(kc_' BK987.out 0).trans rfl, (kc_' BK987.out 1).trans rfl⟩ (fun hHeld => ?_)
         clear hK K
         refine norm_ (a' := ?_) ?_ ?_
         rotate_left
         ·
          show Act.put _ (some 49) _ = _
          simp only [Act.put, sa_', sz_', sc_', i64_w, i32_w]
          rfl
         exact norm_ (by simp only [putAll, Act.put, sa_', sz_', sc_']) (hCont (v1038, v1045, v1048) _ ⟨hHeld, (rm HO1046), (by (with_reducible repeat (first | apply ra_' | apply rn_' | apply rd1_')); exact xi_' HO1049.out (fun _ hk => ⟨hk.2, hk.1⟩)), (km BK987), (bm HB)⟩)
        rintro ⟨v1038, v1045, v1048⟩ w69 ⟨hS_, h0_, h1_, h2_, h3_⟩
        have n0_ : Aside0 (Kd.R k109 109 w69 w.heap.size (fun k_ => some k_ ≠ (v1048 : Value).ownBlock ∧ k_ ≠ gb987) v1045 y1044) := ⟨h0_⟩
        have n1_ : Aside0 (Kd.R k109 109 w69 w.heap.size (fun k_ => some k_ ≠ (v1045 : Value).ownBlock ∧ k_ ≠ gb987) v1048 y1047) := ⟨h1_⟩
        have n2_ : Aside0 (w69.heap[gb987]? = some (.cells #[.int .i64 a1_0, .int .i64 a1_1] 109 (0, 0))) := ⟨h2_⟩
        have n3_ : Aside0 (Below w.heap.size w w69) := ⟨h3_⟩
        clear BK987
        clear HB
        clear h0_ h1_ h2_ h3_
        have HO1046 := n0_
        have HO1049 := n1_
        have BK987 := n2_
        have HB := n3_
        clear n0_ n1_ n2_ n3_
        have hHeld : w69.cell? ⟨gb987, 0, none⟩ = some (.int .i64 a1_0) ∧ w69.cell? ⟨gb987, 1, none⟩ = some (.int .i64 a1_1) := hS_
        obtain ⟨Ao71, co71, eo71⟩ := Kd.R_slice HO1049.out
        (first | subst eo71 | (injection eo71 with f1_ f2_ f3_; have f4_ := f1_.symm; have f5_ := f3_.symm; clear f1_ f2_ f3_; subst f4_; subst f5_))
        refine norm_ (a' := ?_) ?_ ?_
        rotate_left
        ·
         simp only [putAll, Act.put, sa_', sz_', sc_']
         rfl
        refine one_ (i := 7) (N := some 52) #[true, true, true, true, true, true, true, true, true, true, true, false, false] rfl rfl (one_of HT_.out (by kernel_rfl)) (by decide) (fun K hK => ?_)
        refine Kd.R_append_rows_step k109 (w0 := w) w.heap.size (by rfl) (.tmp 49) (.tmp 51) 37 109 (.agg #[(.int .i64 0), (.int .i64 0)]) 16 rfl Try.underlying37 info109 rfl (by decide) (by omega) v1045 y1044 y1047 _ _ _ (fun k_ => some k_ ≠ (.slice Ao71 y1047.length co71 : Value).ownBlock ∧ k_ ≠ gb987) (fun _ => False) rfl rfl ?aO ?aR (fun _ _ h => h) (fun _ h => h.elim) ?aF ?aB ?aS ?aL ?_
        (case aR => repeat (first | exact (xr_' HO1049.out).2.2 | (with_reducible refine xg_' ?_ _) | (with_reducible refine xe_' ?_ _) | (with_reducible refine xf_' ?_)))
        (case aB => exact (bm HB))
        (case aF => exact (fun k_ hk => ⟨Kd.fresh' (Kd.R_lt (rm HO1049)) k_ hk, Kd.freshB (g := gb987) (o := .cells #[.int .i64 a1_0, .int .i64 a1_1] 109 (0, 0)) (km BK987) k_ hk⟩))
        (case aO => exact (rm HO1046))
        (case aS => exact (ps_' (bm HB)))
        (case aL => have := LMc56.out; omega)
        intro v1051 w70 ho hb hg hat
        rw [← Ny1050.out] at ho
        have n0_ := sk_' (blk_grown (g := gb987) (o := .cells #[.int .i64 a1_0, .int .i64 a1_1] 109 (0, 0)) (km BK987) hg (Kd.R_away HO1046.out (fun _ hk => hk.2)))
        have n1_ := sk_' (Kd.R_after (ok := (fun k_ => k_ ≠ gb987)) (by (with_reducible repeat (first | apply ra_' | apply rn_' | apply rd1_')); exact xi_' HO1049.out (fun _ hk => ⟨hk.2, hk.1⟩)) hg hat)
        have n2_ := sk_' (hb)
        have n3_ := sk_' (ho)
        clear BK987
        clear HO1049
        clear HB
        clear HO1046
        have BK987 := n0_
        have HO1049 := n1_
        have HB := n2_
        have HO1052 := n3_
        clear n0_ n1_ n2_ n3_
        clear ho hb hg hat
        refine hK.out _ _ ⟨(kc_' BK987.out 0).trans rfl, (kc_' BK987.out 1).trans rfl⟩ (fun hHeld => ?_)
        clear hK K
        refine norm_ (a' := ?_) ?_ ?_
        rotate_left
        ·
         show Act.put _ (some 52) _ = _
         simp only [Act.put, sa_', sz_', sc_', i64_w, i32_w]
         rfl
        refine one_ (i := 11) (N := some 56) #[true, true, true, true, true, true, true, true, true, true, true, true, false] rfl rfl (one_of HT_.out (by kernel_rfl)) (by decide) (fun K hK => ?_)
        refine Kd.R_append_rows_step k109 (w0 := w) w.heap.size (by rfl) (.tmp 52) (.tmp 55) 37 109 (.agg #[(.int .i64 0), (.int .i64 0)]) 16 rfl Try.underlying37 info109 rfl (by decide) (by omega) v1051 y1050 y1053 _ _ _ (fun k_ => some k_ ≠ (.slice Ao71 y1047.length co71 : Value).ownBlock ∧ k_ ≠ gb987) (fun _ => False) rfl rfl ?aO ?aR (fun _ _ h => h) (fun _ h => h.elim) ?aF ?aB ?aS ?aL ?_
        (case aR => repeat (first | exact (Kd.C_below HR1056.out HB.out) | (with_reducible refine xg_' ?_ _) | (with_reducible refine xe_' ?_ _) | (with_reducible refine xf_' ?_)))
        (case aB => exact (bm HB))
        (case aF => exact (fun k_ hk => ⟨Kd.fresh' (Kd.R_lt (rm HO1049)) k_ hk, Kd.freshB (g := gb987) (o := .cells #[.int .i64 a1_0, .int .i64 a1_1] 109 (0, 0)) (km BK987) k_ hk⟩))
        (case aO => exact (rm HO1052))
        (case aS => exact (ps_' (bm HB)))
        (case aL => have := LMc59.out; omega)
        intro v1058 w72 ho hb hg hat
        rw [← Ny1057.out] at ho
        have n0_ := sk_' (blk_grown (g := gb987) (o := .cells #[.int .i64 a1_0, .int .i64 a1_1] 109 (0, 0)) (km BK987) hg (Kd.R_away HO1052.out (fun _ hk => hk.2)))
        have n1_ := sk_' (Kd.R_after (ok := (fun k_ => k_ ≠ gb987)) (rm HO1049) hg hat)
        have n2_ := sk_' (hb)
        have n3_ := sk_' (ho)
        clear BK987
        clear HO1049
        clear HB
        clear HO1052
        have BK987 := n0_
        have HO1049 := n1_
        have HB := n2_
        have HO1059 := n3_
        clear n0_ n1_ n2_ n3_
        clear ho hb hg hat
        refine hK.out _ _ ⟨(kc_' BK987.out 0).trans rfl, (kc_' BK987.out 1).trans rfl⟩ (fun hHeld => ?_)
        clear hK K
        refine norm_ (a' := ?_) ?_ ?_
        rotate_left
        ·
         show Act.put _ (some 56) _ = _
         simp only [Act.put, sa_', sz_', sc_', i64_w, i32_w]
         rfl
        refine pure_ (i := 12) (N := some 4) (v := ?_) (a' := ?_) #[true, true, true, true, true, true, true, true, true, true, true, true, true] rfl rfl (any_of HT_.out (by kernel_rfl)) (fun _ _ _ h => h) (Or.inl ⟨by rfl, ?_⟩) ?_ ?_
        rotate_left
        ·
         intro w'
         go_simp
         with_reducible rfl
        rotate_left
        ·
         simp only [Act.put, sa_', sz_', sc_', i64_w, i32_w]
         rfl
        refine done_ (done_of HT_.out (by kernel_rfl)) ?_
        try go_wp2
        go_ret
        exact ⟨_, rfl, by (with_reducible repeat (first | apply ra_' | apply rn_' | apply rd1_')); exact xi_' HO1059.out (fun _ hk => trivial), bm HB⟩
       rw [if_neg c59] at H
       exact absurd H (by simp)
      rw [if_neg c56] at H
      exact absurd H (by simp)
     rw [if_neg c55] at H
     exact absurd H (by simp)
    rw [if_neg c54] at H
    exact absurd H (by simp)
   rw [if_neg c53] at H
   exact absurd H (by simp)
end Go.Proofs.Ytiophiipmgpaeaa.F

namespace Go.Proofs.Ytiophiipmgpaeaa.F
open Go.RowKit Go.Proofs.YtiophiipmgpaeaaW.PrintWords Go.Proofs.YtiophiipmgpaeaaW.PrintLast Go.Proofs.YtiophiipmgpaeaaW.PrintMore
attribute [local go_sem] max2_int min2_int max_two min_two max_three min_three max_four min_four
set_option linter.unusedVariables false
set_option linter.unusedSimpArgs false
def spec_Mod.f (a0 : Int) (a1 : Int) : Option (Int) := (spec_l1In.f a1 1 1000000000000).bind fun t1060 => (if t1060 = true then (if a1 = 0 then (none) else (some (Int.tmod (wrap64 ((Int.tmod a0 a1) + a1)) a1))) else (some 0))
set_option maxHeartbeats 8000000 in
set_option maxRecDepth 100000 in
theorem spec_Mod.calls (a0 : Int) (a1 : Int) (r : Int) (w : World) (h : spec_Mod.f a0 a1 = some r) :
  Calls Try.prog 150 #[.int .i64 a0, .int .i64 a1] w fun e w' => e = .returned (.int .i64 r) ∧ Drawn0 w w' := by
 have H : ((spec_l1In.f a1 1 1000000000000).bind fun t1060 => (if t1060 = true then (if a1 = 0 then (none) else (some (Int.tmod (wrap64 ((Int.tmod a0 a1) + a1)) a1))) else (some 0))) = some r := h
 clear h
 replace H := bs_' H
 obtain ⟨t1060, A30, H⟩ := H
 try dsimp only at H
 have A3 := sk_' A30
 clear A30
 by_cases c4 : t1060 = true
 ·
  subst c4
  rw [if_pos rfl] at H
  by_cases c5 : a1 = 0
  ·
   rw [if_pos c5] at H
   exact absurd H (by simp)
  rw [if_neg c5] at H
  have c5b0 : (a1 == 0) = false := beq_eq_false_iff_ne.mpr c5
  have c5b1 : (a1 != 0) = true := bne_iff_ne.mpr c5
  obtain rfl := Option.some.inj H
  go_enter Try.func150, Try.ntmps150
  go_wp2_with (first | ((with_reducible refine xj_' (f := 80) rfl ?_); refine goesL_ (some 6) rfl rfl Try.func80 (by kernel_rfl) rfl #[.int .i64 a1, .int .i64 1, .int .i64 1000000000000] rfl (by (try simp only [xm_', xc_', xn_']); first | done | rfl | (simp only [xd_', xt_']; rfl)) ?_; (with_reducible refine (spec_l1In.calls a1 1 1000000000000 true _ A3.out).mono ?_); rintro e w' ⟨rfl, ⟨nd, rfl⟩⟩; refine ⟨_, rfl, ?_⟩))
  go_ret
  exact ⟨by first | rfl | (simp; done) | (simp [*]; done), by repeat (first | exact Drawn0.refl _ | apply Drawn0.step)⟩
 replace c4 := Bool.eq_false_iff.mpr c4
 subst c4
 rw [if_neg (show ¬ (false = true) by decide)] at H
 obtain rfl := Option.some.inj H
 go_enter Try.func150, Try.ntmps150
 go_wp2_with (first | ((with_reducible refine xj_' (f := 80) rfl ?_); refine goesL_ (some 6) rfl rfl Try.func80 (by kernel_rfl) rfl #[.int .i64 a1, .int .i64 1, .int .i64 1000000000000] rfl (by (try simp only [xm_', xc_', xn_']); first | done | rfl | (simp only [xd_', xt_']; rfl)) ?_; (with_reducible refine (spec_l1In.calls a1 1 1000000000000 false _ A3.out).mono ?_); rintro e w' ⟨rfl, ⟨nd, rfl⟩⟩; refine ⟨_, rfl, ?_⟩))
 go_ret
 exact ⟨by first | rfl | (simp; done) | (simp [*]; done), by repeat (first | exact Drawn0.refl _ | apply Drawn0.step)⟩
end Go.Proofs.Ytiophiipmgpaeaa.F

namespace Go.Proofs.Ytiophiipmgpaeaa.F
open Go.RowKit Go.Proofs.YtiophiipmgpaeaaW.PrintWords Go.Proofs.YtiophiipmgpaeaaW.PrintLast Go.Proofs.YtiophiipmgpaeaaW.PrintMore
attribute [local go_sem] max2_int min2_int max_two min_two max_three min_three max_four min_four
set_option linter.unusedVariables false
set_option linter.unusedSimpArgs false
def spec_FloorRatio.f (k : Nat) (a0_0 : Int) (a0_1 : Int) : Option (Int) := (spec_IsRatio.f k a0_0 a0_1).bind fun t1062 => (if t1062 = true then ((spec_Mod.f a0_0 a0_1).bind fun t1063 => (if a0_1 = 0 then (none) else (some (wrap64 (Int.tdiv (wrap64 (a0_0 - t1063)) a0_1))))) else (some 0))
set_option maxHeartbeats 8000000 in
set_option maxRecDepth 100000 in
theorem spec_FloorRatio.calls (k : Nat) (a0_0 : Int) (a0_1 : Int) (r : Int) (w : World) (h : spec_FloorRatio.f k a0_0 a0_1 = some r) :
  Calls Try.prog 113 #[.agg #[.int .i64 a0_0, .int .i64 a0_1]] w fun e w' => e = .returned (.int .i64 r) ∧ Below w.heap.size w w' := by
 have hu134 := Try.underlying134
 have HB := sk_' (Below.refl w.heap.size w)
 have H : ((spec_IsRatio.f k a0_0 a0_1).bind fun t1062 => (if t1062 = true then ((spec_Mod.f a0_0 a0_1).bind fun t1063 => (if a0_1 = 0 then (none) else (some (wrap64 (Int.tdiv (wrap64 (a0_0 - t1063)) a0_1))))) else (some 0))) = some r := h
 clear h
 replace H := bs_' H
 obtain ⟨t1062, A20, H⟩ := H
 try dsimp only at H
 have A2 := sk_' A20
 clear A20
 by_cases c3 : t1062 = true
 ·
  subst c3
  rw [if_pos rfl] at H
  replace H := bs_' H
  obtain ⟨t1063, A40, H⟩ := H
  try dsimp only at H
  have A4 := sk_' A40
  clear A40
  by_cases c5 : a0_1 = 0
  ·
   rw [if_pos c5] at H
   exact absurd H (by simp)
  rw [if_neg c5] at H
  have c5b0 : (a0_1 == 0) = false := beq_eq_false_iff_ne.mpr c5
  have c5b1 : (a0_1 != 0) = true := bne_iff_ne.mpr c5
  obtain rfl := Option.some.inj H
  go_enter Try.func113, Try.ntmps113
  go_wp2_with (first | ((with_reducible refine gate_dst (N := 1) rfl ?_); refine box_event ?hg (N := 1) ?hd (cs := #[.int .i64 a0_0, .int .i64 a0_1]) (t := 134) ?hr ?_; (case hd => rfl); (case hg => rfl); (case hr => first | (go_simp; done) | (go_simp; rfl)); intro gb1061 hg w6 hbox hb; have n0_ := sk_' (pp_' (bm HB) hb); have n1_ := sk_' (hbox); have n2_ := sk_' ((by rw [hg]; exact (ps_' (bm HB)) : w.heap.size ≤ gb1061)); have n3_ := sk_' ((by rw [hg]; exact (ps_' (bm HB)) : w.heap.size ≤ gb1061)); clear HB; have HB := n0_; have BK1061 := n1_; have GW1061 := n2_; have GE1061 := n3_; clear n0_ n1_ n2_ n3_; clear hb hbox hg; have hcz7_0 : w6.cell? ⟨gb1061, 0, none⟩ = some (.int .i64 a0_0) := (kc_' BK1061.out 0).trans rfl; have hcz7_1 : w6.cell? ⟨gb1061, 1, none⟩ = some (.int .i64 a0_1) := (kc_' BK1061.out 1).trans rfl; have hfz7_0 := kf_' BK1061.out 0; have hfz7_1 := kf_' BK1061.out 1) | (go_at_call 149; (with_reducible refine (spec_IsRatio.calls k a0_0 a0_1 true _ A2.out).mono ?_); rintro e w8 ⟨rfl, hb⟩; have n0_ := sk_' (blk_below (g := gb1061) (o := .cells #[.int .i64 a0_0, .int .i64 a0_1] 134 (0, 0)) (km BK1061) hb); have n1_ := sk_' (pp_' (bm HB) hb); clear BK1061; clear HB; have BK1061 := n0_; have HB := n1_; clear n0_ n1_; (try clear hb); (try clear hb2); (try clear hk); (try clear hi); have hcz9_0 : w8.cell? ⟨gb1061, 0, none⟩ = some (.int .i64 a0_0) := (kc_' BK1061.out 0).trans rfl; have hcz9_1 : w8.cell? ⟨gb1061, 1, none⟩ = some (.int .i64 a0_1) := (kc_' BK1061.out 1).trans rfl; have hfz9_0 := kf_' BK1061.out 0; have hfz9_1 := kf_' BK1061.out 1) | (go_at_call 150; (with_reducible refine (spec_Mod.calls a0_0 a0_1 t1063 _ A4.out).mono ?_); rintro e w' ⟨rfl, ⟨nd, rfl⟩⟩; (try first | exact ⟨rfl, _, World.drewN_drewN _ _ _⟩ | exact ⟨rfl, _, Eq.trans (World.drewN_drewN _ _ _) (congrArg (World.drewN _) (Nat.add_assoc _ _ _))⟩)))
  repeat (go_quiet (first | ((with_reducible refine gate_dst (N := 1) rfl ?_); refine box_event ?hg (N := 1) ?hd (cs := #[.int .i64 a0_0, .int .i64 a0_1]) (t := 134) ?hr ?_; (case hd => rfl); (case hg => rfl); (case hr => first | (go_simp; done) | (go_simp; rfl)); intro gb1061 hg w6 hbox hb; have n0_ := sk_' (pp_' (bm HB) hb); have n1_ := sk_' (hbox); have n2_ := sk_' ((by rw [hg]; exact (ps_' (bm HB)) : w.heap.size ≤ gb1061)); have n3_ := sk_' ((by rw [hg]; exact (ps_' (bm HB)) : w.heap.size ≤ gb1061)); clear HB; have HB := n0_; have BK1061 := n1_; have GW1061 := n2_; have GE1061 := n3_; clear n0_ n1_ n2_ n3_; clear hb hbox hg; have hcz7_0 : w6.cell? ⟨gb1061, 0, none⟩ = some (.int .i64 a0_0) := (kc_' BK1061.out 0).trans rfl; have hcz7_1 : w6.cell? ⟨gb1061, 1, none⟩ = some (.int .i64 a0_1) := (kc_' BK1061.out 1).trans rfl; have hfz7_0 := kf_' BK1061.out 0; have hfz7_1 := kf_' BK1061.out 1) | (go_at_call 149; (with_reducible refine (spec_IsRatio.calls k a0_0 a0_1 true _ A2.out).mono ?_); rintro e w8 ⟨rfl, hb⟩; have n0_ := sk_' (blk_below (g := gb1061) (o := .cells #[.int .i64 a0_0, .int .i64 a0_1] 134 (0, 0)) (km BK1061) hb); have n1_ := sk_' (pp_' (bm HB) hb); clear BK1061; clear HB; have BK1061 := n0_; have HB := n1_; clear n0_ n1_; (try clear hb); (try clear hb2); (try clear hk); (try clear hi); have hcz9_0 : w8.cell? ⟨gb1061, 0, none⟩ = some (.int .i64 a0_0) := (kc_' BK1061.out 0).trans rfl; have hcz9_1 : w8.cell? ⟨gb1061, 1, none⟩ = some (.int .i64 a0_1) := (kc_' BK1061.out 1).trans rfl; have hfz9_0 := kf_' BK1061.out 0; have hfz9_1 := kf_' BK1061.out 1) | (go_at_call 150; (with_reducible refine (spec_Mod.calls a0_0 a0_1 t1063 _ A4.out).mono ?_); rintro e w' ⟨rfl, ⟨nd, rfl⟩⟩; (try first | exact ⟨rfl, _, World.drewN_drewN _ _ _⟩ | exact ⟨rfl, _, Eq.trans (World.drewN_drewN _ _ _) (congrArg (World.drewN _) (Nat.add_assoc _ _ _))⟩))); try go_wp2_with (first | ((with_reducible refine gate_dst (N := 1) rfl ?_); refine box_event ?hg (N := 1) ?hd (cs := #[.int .i64 a0_0, .int .i64 a0_1]) (t := 134) ?hr ?_; (case hd => rfl); (case hg => rfl); (case hr => first | (go_simp; done) | (go_simp; rfl)); intro gb1061 hg w6 hbox hb; have n0_ := sk_' (pp_' (bm HB) hb); have n1_ := sk_' (hbox); have n2_ := sk_' ((by rw [hg]; exact (ps_' (bm HB)) : w.heap.size ≤ gb1061)); have n3_ := sk_' ((by rw [hg]; exact (ps_' (bm HB)) : w.heap.size ≤ gb1061)); clear HB; have HB := n0_; have BK1061 := n1_; have GW1061 := n2_; have GE1061 := n3_; clear n0_ n1_ n2_ n3_; clear hb hbox hg; have hcz7_0 : w6.cell? ⟨gb1061, 0, none⟩ = some (.int .i64 a0_0) := (kc_' BK1061.out 0).trans rfl; have hcz7_1 : w6.cell? ⟨gb1061, 1, none⟩ = some (.int .i64 a0_1) := (kc_' BK1061.out 1).trans rfl; have hfz7_0 := kf_' BK1061.out 0; have hfz7_1 := kf_' BK1061.out 1) | (go_at_call 149; (with_reducible refine (spec_IsRatio.calls k a0_0 a0_1 true _ A2.out).mono ?_); rintro e w8 ⟨rfl, hb⟩; have n0_ := sk_' (blk_below (g := gb1061) (o := .cells #[.int .i64 a0_0, .int .i64 a0_1] 134 (0, 0)) (km BK1061) hb); have n1_ := sk_' (pp_' (bm HB) hb); clear BK1061; clear HB; have BK1061 := n0_; have HB := n1_; clear n0_ n1_; (try clear hb); (try clear hb2); (try clear hk); (try clear hi); have hcz9_0 : w8.cell? ⟨gb1061, 0, none⟩ = some (.int .i64 a0_0) := (kc_' BK1061.out 0).trans rfl; have hcz9_1 : w8.cell? ⟨gb1061, 1, none⟩ = some (.int .i64 a0_1) := (kc_' BK1061.out 1).trans rfl; have hfz9_0 := kf_' BK1061.out 0; have hfz9_1 := kf_' BK1061.out 1) | (go_at_call 150; (with_reducible refine (spec_Mod.calls a0_0 a0_1 t1063 _ A4.out).mono ?_); rintro e w' ⟨rfl, ⟨nd, rfl⟩⟩; (try first | exact ⟨rfl, _, World.drewN_drewN _ _ _⟩ | exact ⟨rfl, _, Eq.trans (World.drewN_drewN _ _ _) (congrArg (World.drewN _) (Nat.add_assoc _ _ _))⟩))))
  go_ret
  exact ⟨rfl, bm HB⟩
 replace c3 := Bool.eq_false_iff.mpr c3
 subst c3
 rw [if_neg (show ¬ (false = true) by decide)] at H
 obtain rfl := Option.some.inj H
 go_enter Try.func113, Try.ntmps113
 go_wp2_with (first | ((with_reducible refine gate_dst (N := 1) rfl ?_); refine box_event ?hg (N := 1) ?hd (cs := #[.int .i64 a0_0, .int .i64 a0_1]) (t := 134) ?hr ?_; (case hd => rfl); (case hg => rfl); (case hr => first | (go_simp; done) | (go_simp; rfl)); intro gb1061 hg w10 hbox hb; have n0_ := sk_' (pp_' (bm HB) hb); have n1_ := sk_' (hbox); have n2_ := sk_' ((by rw [hg]; exact (ps_' (bm HB)) : w.heap.size ≤ gb1061)); have n3_ := sk_' ((by rw [hg]; exact (ps_' (bm HB)) : w.heap.size ≤ gb1061)); clear HB; have HB := n0_; have BK1061 := n1_; have GW1061 := n2_; have GE1061 := n3_; clear n0_ n1_ n2_ n3_; clear hb hbox hg; have hcz11_0 : w10.cell? ⟨gb1061, 0, none⟩ = some (.int .i64 a0_0) := (kc_' BK1061.out 0).trans rfl; have hcz11_1 : w10.cell? ⟨gb1061, 1, none⟩ = some (.int .i64 a0_1) := (kc_' BK1061.out 1).trans rfl; have hfz11_0 := kf_' BK1061.out 0; have hfz11_1 := kf_' BK1061.out 1) | (go_at_call 149; (with_reducible refine (spec_IsRatio.calls k a0_0 a0_1 false _ A2.out).mono ?_); rintro e w12 ⟨rfl, hb⟩; have n0_ := sk_' (blk_below (g := gb1061) (o := .cells #[.int .i64 a0_0, .int .i64 a0_1] 134 (0, 0)) (km BK1061) hb); have n1_ := sk_' (pp_' (bm HB) hb); clear BK1061; clear HB; have BK1061 := n0_; have HB := n1_; clear n0_ n1_; (try clear hb); (try clear hb2); (try clear hk); (try clear hi)))
 repeat (go_quiet (first | ((with_reducible refine gate_dst (N := 1) rfl ?_); refine box_event ?hg (N := 1) ?hd (cs := #[.int .i64 a0_0, .int .i64 a0_1]) (t := 134) ?hr ?_; (case hd => rfl); (case hg => rfl); (case hr => first | (go_simp; done) | (go_simp; rfl)); intro gb1061 hg w10 hbox hb; have n0_ := sk_' (pp_' (bm HB) hb); have n1_ := sk_' (hbox); have n2_ := sk_' ((by rw [hg]; exact (ps_' (bm HB)) : w.heap.size ≤ gb1061)); have n3_ := sk_' ((by rw [hg]; exact (ps_' (bm HB)) : w.heap.size ≤ gb1061)); clear HB; have HB := n0_; have BK1061 := n1_; have GW1061 := n2_; have GE1061 := n3_; clear n0_ n1_ n2_ n3_; clear hb hbox hg; have hcz11_0 : w10.cell? ⟨gb1061, 0, none⟩ = some (.int .i64 a0_0) := (kc_' BK1061.out 0).trans rfl; have hcz11_1 : w10.cell? ⟨gb1061, 1, none⟩ = some (.int .i64 a0_1) := (kc_' BK1061.out 1).trans rfl; have hfz11_0 := kf_' BK1061.out 0; have hfz11_1 := kf_' BK1061.out 1) | (go_at_call 149; (with_reducible refine (spec_IsRatio.calls k a0_0 a0_1 false _ A2.out).mono ?_); rintro e w12 ⟨rfl, hb⟩; have n0_ := sk_' (blk_below (g := gb1061) (o := .cells #[.int .i64 a0_0, .int .i64 a0_1] 134 (0, 0)) (km BK1061) hb); have n1_ := sk_' (pp_' (bm HB) hb); clear BK1061; clear HB; have BK1061 := n0_; have HB := n1_; clear n0_ n1_; (try clear hb); (try clear hb2); (try clear hk); (try clear hi))); try go_wp2_with (first | ((with_reducible refine gate_dst (N := 1) rfl ?_); refine box_event ?hg (N := 1) ?hd (cs := #[.int .i64 a0_0, .int .i64 a0_1]) (t := 134) ?hr ?_; (case hd => rfl); (case hg => rfl); (case hr => first | (go_simp; done) | (go_simp; rfl)); intro gb1061 hg w10 hbox hb; have n0_ := sk_' (pp_' (bm HB) hb); have n1_ := sk_' (hbox); have n2_ := sk_' ((by rw [hg]; exact (ps_' (bm HB)) : w.heap.size ≤ gb1061)); have n3_ := sk_' ((by rw [hg]; exact (ps_' (bm HB)) : w.heap.size ≤ gb1061)); clear HB; have HB := n0_; have BK1061 := n1_; have GW1061 := n2_; have GE1061 := n3_; clear n0_ n1_ n2_ n3_; clear hb hbox hg; have hcz11_0 : w10.cell? ⟨gb1061, 0, none⟩ = some (.int .i64 a0_0) := (kc_' BK1061.out 0).trans rfl; have hcz11_1 : w10.cell? ⟨gb1061, 1, none⟩ = some (.int .i64 a0_1) := (kc_' BK1061.out 1).trans rfl; have hfz11_0 := kf_' BK1061.out 0; have hfz11_1 := kf_' BK1061.out 1) | (go_at_call 149; (with_reducible refine (spec_IsRatio.calls k a0_0 a0_1 false _ A2.out).mono ?_); rintro e w12 ⟨rfl, hb⟩; have n0_ := sk_' (blk_below (g := gb1061) (o := .cells #[.int .i64 a0_0, .int .i64 a0_1] 134 (0, 0)) (km BK1061) hb); have n1_ := sk_' (pp_' (bm HB) hb); clear BK1061; clear HB; have BK1061 := n0_; have HB := n1_; clear n0_ n1_; (try clear hb); (try clear hb2); (try clear hk); (try clear hi))))
 go_ret
 exact ⟨rfl, bm HB⟩
end Go.Proofs.Ytiophiipmgpaeaa.F

namespace Go.Proofs.Ytiophiipmgpaeaa.F
open Go.RowKit Go.Proofs.YtiophiipmgpaeaaW.PrintWords Go.Proofs.YtiophiipmgpaeaaW.PrintLast Go.Proofs.YtiophiipmgpaeaaW.PrintMore
attribute [local go_sem] max2_int min2_int max_two min_two max_three min_three max_four min_four
set_option linter.unusedVariables false
set_option linter.unusedSimpArgs false
mutual
def spec_PlayScore.l0 : Nat → List (S118) → List (S140) → List (S109) → Int → Option ((List (S109)) × Bool)
 | 0, _, _, _, _ => none
 | k + 1, x0, x1, x6, x7 => if x7 < (x0.length : Int) then ((spec_IsScore.f k x0).bind fun t1067 => (spec_PlayScore.j1 k x0 x1 x6 x7 t1067)) else (spec_PlayScore.j1 k x0 x1 x6 x7 false)
def spec_PlayScore.j1 : Nat → List (S118) → List (S140) → List (S109) → Int → Bool → Option ((List (S109)) × Bool)
 | 0, _, _, _, _, _ => none
 | k + 1, x0, x1, x6, x7, x18 => if x18 = true then (if 0 ≤ x7 then (if x7 < (x0.length : Int) then ((spec_TimeOf.f k x1 ((rd_T118 x0 x7).f0)).bind fun bt1070 => (if bt1070.2.2 = true then ((spec_FloorRatio.f k bt1070.1 bt1070.2.1).bind fun t1074 => ((spec_l14Put.f k x6 t1074 ((rd_T118 x0 x7).f2)).bind fun t1076 => (spec_PlayScore.l0 k x0 x1 t1076 (wrap64 (x7 + 1))))) else (some ((([] : List (S109))), false)))) else (none)) else (none)) else ((spec_IsScore.f k x0).bind fun t1068 => (some (x6, t1068)))
end
def spec_PlayScore.f (k : Nat) (l0 : List (S118)) (l1 : List (S140)) : Option ((List (S109)) × Bool) := spec_PlayScore.l0 k l0 l1 (([] : List (S109))) 0
def spec_PlayScore.T8 : Bool × List (List Nat × List Nat) := (true, [([], []), ([], []), ([1], [1]), ([], []), ([], []), ([3, 4], [3, 4]), ([5], [5]), ([6], [6]), ([2, 7], [2, 7]), ([0, 8, 2], [0, 8]), ([9, 9, 0, 1, 2, 3, 4, 5, 6, 7, 8, 9], [0, 9])])
def spec_PlayScore.B8 : List Nat := [0, 0, 2, 0, 0, 24, 56, 120, 254, 511, 1023]
theorem spec_PlayScore.tab8 : rtab .any (opsOf Try.f57 8) = spec_PlayScore.T8 := by kernel_rfl
theorem spec_PlayScore.bits8 : waitsOk spec_PlayScore.T8.2 spec_PlayScore.B8 = true := by kernel_rfl
set_option maxHeartbeats 8000000 in
set_option maxRecDepth 100000 in
theorem spec_PlayScore.calls (k : Nat) (A0 : Option Addr) (c0 : Nat) (l0 : List (S118)) (A1 : Option Addr) (c1 : Nat) (l1 : List (S140)) (r1 : List (S109)) (r2 : Bool) (w : World) (hr0 : Kd.C k118 w A0 l0.length l0) (hc0 : l0.length ≤ c0) (hr1 : Kd.C k140 w A1 l1.length l1) (hc1 : l1.length ≤ c1) (h : spec_PlayScore.f k l0 l1 = some (r1, r2)) :
  Calls Try.prog 57 #[.slice A0 l0.length c0, .slice A1 l1.length c1] w fun e w' => ∃ v0_ : Value, e = .returned (.tuple #[v0_, .bool r2]) ∧ Kd.R k109 109 w' w.heap.size (fun _ => True) v0_ r1 ∧ Below w.heap.size w w' := by
 have hu134 := Try.underlying134
 have hu109 := Try.underlying109
 have HR0 := sk_' hr0
 have HC0 := sk_' hc0
 clear hr0 hc0
 have HR1 := sk_' hr1
 have HC1 := sk_' hc1
 clear hr1 hc1
 have HB := sk_' (Below.refl w.heap.size w)
 have H : (spec_PlayScore.l0 k l0 l1 (([] : List (S109))) 0) = some (r1, r2) := h
 clear h
 obtain ⟨y1064, hy1064⟩ : ∃ y_ : List (S109), y_ = (([] : List (S109))) := ⟨_, rfl⟩
 replace H : (spec_PlayScore.l0 k l0 l1 y1064 0) = some (r1, r2) := by first | (rw [hy1064]; with_reducible exact H) | (have H2_ := (Option.bind_some _ _).symm.trans H; rw [hy1064]; with_reducible exact H2_) | (have H2_ := (Option.bind_some _ _).symm.trans H; with_reducible exact H2_) | with_reducible exact H | (rw [hy1064]; exact H) | exact H
 have Ny1064 := sk_' hy1064
 clear hy1064
 have H' := sk_' H
 clear H
 go_enter Try.func57, Try.ntmps57
 go_wp2_with (first | ((with_reducible refine gate_dst (N := 10) rfl ?_); refine Kd.R_lit k109 _ 109 ?hg (N := 10) ?hd (xs := ([] : List (S109))) (inner := []) (ok := fun _ => True) (okp := fun _ => True) ?hr ?hp (fun _ hk => hk) trivial (Below.refl _ _) (Nat.le_refl _) (by simp) ?_; (case hd => rfl); (case hg => rfl); (case hr => first | (go_simp; done) | (go_simp; rfl)); (case hp => exact (Reps.none _ _)); intro v1065 w3 ho4 hb hg_ hnew_; clear hg_ hnew_; (first | rw [← Ny1064.out] at ho4 | (simp only [Int.reduceToNat] at ho4; rw [← Ny1064.out] at ho4)); have n0_ := sk_' (Kd.R_lower ho4 (ps_' (bm HB))); have n1_ := sk_' (pp_' (bm HB) hb); clear HB; have HO1066 := n0_; have HB := n1_; clear n0_ n1_; clear hb ho4))
 go_loopg [6, 7] k (fun kq v6 v7 w' => ∃ (x6_1 : List (S109)) (x7_1 : Int), v7 = .int .i64 x7_1 ∧ Aside0 (spec_PlayScore.l0 kq l0 l1 x6_1 x7_1 = some (r1, r2)) ∧ Aside0 (kq ≤ k) ∧ Aside0 (Kd.R k109 109 w' w.heap.size (fun _ => True) v6 x6_1) ∧ Aside0 (Below w.heap.size w w'))
 case atStart => exact ⟨(y1064), (0), rfl, H', ⟨Nat.le_refl _⟩, ⟨rm HO1066⟩, ⟨bm HB⟩⟩
 case round =>
  clear H'
  try clear c1
  try clear p2
  obtain ⟨x6_1, x7_1, rfl, HA, HK1, HO_6, HB⟩ := hrel
  cases gk with
  | zero => exact absurd HA.out (by simp [spec_PlayScore.l0])
  | succ k1 =>
   have H := HA.out
   clear HA
   simp only [spec_PlayScore.l0] at H
   have HC5 := sk_' H
   clear H
   go_upto_region 3 with (fail)
   go_cut [18] (fun v18 wc => ∃ (kq : Nat) (x18_4 : Bool), v18 = .bool x18_4 ∧ Aside0 (spec_PlayScore.j1 kq l0 l1 x6_1 x7_1 x18_4 = some (r1, r2)) ∧ Aside0 (kq ≤ k1) ∧ Aside0 (Kd.R k109 109 wc w.heap.size (fun _ => True) u6 x6_1) ∧ Aside0 (Below w.heap.size w wc))
   case first =>
    have H := HC5.out
    clear HC5
    by_cases c6 : x7_1 < (l0.length : Int)
    ·
     rw [if_pos c6] at H
     have c6b0 : decide (x7_1 < (l0.length : Int)) = true := decide_eq_true c6
     clear c6
     (first | rw [c6b0] | (simp only [i64_w, i32_w]; rw [c6b0]) | skip)
     replace H := bs_' H
     obtain ⟨t1067, A70, H⟩ := H
     try dsimp only at H
     have A7 := sk_' A70
     clear A70
     have H' := sk_' H
     clear H
     go_wp2_with (first | (go_at_call 95; (with_reducible refine (spec_IsScore.calls k1 _ _ l0 t1067 _ ?side1 ?side2 A7.out).mono ?_); (case side1 => repeat (first | exact (Kd.C_below HR0.out HB.out) | (with_reducible refine xg_' ?_ _) | (with_reducible refine xe_' ?_ _) | (with_reducible refine xf_' ?_))); (case side2 => exact HC0.out); rintro e w8 ⟨rfl, hb⟩; have n0_ := sk_' (xb_' (rm HO_6) hb); have n1_ := sk_' (pp_' (bm HB) hb); clear HO_6; clear HB; have HO_6 := n0_; have HB := n1_; clear n0_ n1_; (try clear hb); (try clear hb2); (try clear hk); (try clear hi)))
     go_meet
     case rel => exact ⟨_, (t1067), rfl, H', ⟨by have := HK1.out; first | omega | exact Nat.le_refl _⟩, ⟨rm HO_6⟩, ⟨bm HB⟩⟩
    rw [if_neg c6] at H
    have c6b0 : decide (x7_1 < (l0.length : Int)) = false := decide_eq_false c6
    clear c6
    (first | rw [c6b0] | (simp only [i64_w, i32_w]; rw [c6b0]) | skip)
    have H' := sk_' H
    clear H
    go_wp2
    go_meet
    case rel => exact ⟨_, (false), rfl, H', ⟨by have := HK1.out; first | omega | exact Nat.le_refl _⟩, ⟨rm HO_6⟩, ⟨bm HB⟩⟩
   case rest =>
    clear HC5
    try clear c1
    try clear p2
    try clear c5
    try clear c6
    try clear c6b0
    try clear p2
    obtain ⟨kq, x18_4, rfl, HA, HJ4, HO_6, HB⟩ := hcut
    cases kq with
    | zero => exact absurd HA.out (by simp [spec_PlayScore.j1])
    | succ kj4 =>
     have H := HA.out
     clear HA
     simp only [spec_PlayScore.j1] at H
     by_cases c9 : x18_4 = true
     ·
      subst c9
      rw [if_pos rfl] at H
      by_cases c10 : 0 ≤ x7_1
      ·
       rw [if_pos c10] at H
       have c10b0 : decide (0 ≤ x7_1) = true := decide_eq_true c10
       clear c10
       by_cases c11 : x7_1 < (l0.length : Int)
       ·
        rw [if_pos c11] at H
        have c11b0 : decide (x7_1 < (l0.length : Int)) = true := decide_eq_true c11
        clear c11
        replace H := bs_' H
        obtain ⟨⟨t1070, t1071, t1072⟩, A120, H⟩ := H
        try dsimp only at H
        have A12 := sk_' A120
        clear A120
        by_cases c13 : t1072 = true
        ·
         subst c13
         rw [if_pos rfl] at H
         replace H := bs_' H
         obtain ⟨t1074, A140, H⟩ := H
         try dsimp only at H
         have A14 := sk_' A140
         clear A140
         replace H := bs_' H
         obtain ⟨t1076, A150, H⟩ := H
         try dsimp only at H
         have A15 := sk_' A150
         clear A150
         have H' := sk_' H
         clear H
         have p1069 : 0 ≤ (x7_1 : Int) := od_' (by first | (with_reducible assumption) | assumption)
         have q1069 : x7_1 < (l0.length : Int) := od_' (by first | (with_reducible assumption) | assumption)
         obtain ⟨ad1069, e1069, hx1069_0, hx1069_1, hx1069_2, hx1069_3⟩ := at_T118 HR0.out x7_1 p1069 q1069
         cases e1069
         replace hx1069_0 := (HB.out.cell (bq_' w _ hx1069_0)).trans hx1069_0
         replace hx1069_1 := (HB.out.cell (bq_' w _ hx1069_1)).trans hx1069_1
         replace hx1069_2 := (HB.out.cell (bq_' w _ hx1069_2)).trans hx1069_2
         replace hx1069_3 := (HB.out.cell (bq_' w _ hx1069_3)).trans hx1069_3
         replace p1069 := eq_true p1069
         replace q1069 := eq_true q1069
         try go_wp2_with (first | ((with_reducible refine xj_' (f := 111) rfl ?_); refine goesL_ (some 28) rfl rfl Try.func111 (by kernel_rfl) rfl #[.slice A1 l1.length c1, .int .i64 ((rd_T118 l0 x7_1).f0)] rfl (by (try simp only [xm_', xc_', xn_']); first | done | rfl | (simp only [xd_', xt_']; rfl)) ?_; (with_reducible refine (spec_TimeOf.calls kj4 _ _ l1 ((rd_T118 l0 x7_1).f0) t1070 t1071 true _ ?side1 ?side2 A12.out).mono ?_); (case side1 => repeat (first | exact (Kd.C_below HR1.out HB.out) | (with_reducible refine xg_' ?_ _) | (with_reducible refine xe_' ?_ _) | (with_reducible refine xf_' ?_))); (case side2 => exact HC1.out); rintro e w16 ⟨rfl, hb⟩; refine ⟨_, rfl, ?_⟩; have n0_ := sk_' (xb_' (by (with_reducible repeat (first | apply ra_' | apply rn_' | apply rd1_')); exact HO_6.out) hb); have n1_ := sk_' (pp_' (by repeat (first | (with_reducible first | exact HB.out | apply pa_' | apply pn_' | apply pd_') | exact HB.out)) hb); clear HO_6; clear HB; have HO_6 := n0_; have HB := n1_; clear n0_ n1_; (try clear hb); (try clear hb2); (try clear hk); (try clear hi)) | ((with_reducible refine gate_dst (N := 8) rfl ?_); refine box_event ?hg (N := 8) ?hd (cs := #[.int .i64 0, .int .i64 0]) (t := 134) ?hr ?_; (case hd => rfl); (case hg => rfl); (case hr => first | (go_simp; done) | (go_simp; rfl)); intro gb1073 hg w17 hbox hb; have n0_ := sk_' (xb_' (by (with_reducible repeat (first | apply ra_' | apply rn_' | apply rd1_')); exact HO_6.out) hb); have n1_ := sk_' (pp_' (by repeat (first | (with_reducible first | exact HB.out | apply pa_' | apply pn_' | apply pd_') | exact HB.out)) hb); have n2_ := sk_' (hbox); have n3_ := sk_' ((by rw [hg]; exact (ps_' (by repeat (first | (with_reducible first | exact HB.out | apply pa_' | apply pn_' | apply pd_') | exact HB.out))) : w.heap.size ≤ gb1073)); have n4_ := sk_' ((by rw [hg]; exact (ps_' (by repeat (first | (with_reducible first | exact HB.out | apply pa_' | apply pn_' | apply pd_') | exact HB.out))) : w.heap.size ≤ gb1073)); clear HO_6; clear HB; have HO_6 := n0_; have HB := n1_; have BK1073 := n2_; have GW1073 := n3_; have GE1073 := n4_; clear n0_ n1_ n2_ n3_ n4_; clear hb hbox hg; have hcz18_0 : w17.cell? ⟨gb1073, 0, none⟩ = some (.int .i64 0) := (kc_' BK1073.out 0).trans rfl; have hcz18_1 : w17.cell? ⟨gb1073, 1, none⟩ = some (.int .i64 0) := (kc_' BK1073.out 1).trans rfl; have hfz18_0 := kf_' BK1073.out 0; have hfz18_1 := kf_' BK1073.out 1))
         have n0_ : Aside0 (Kd.R k109 109 ((w17.setCell ⟨gb1073, 0, none⟩ (.int .i64 t1070)).setCell ⟨gb1073, 1, none⟩ (.int .i64 t1071)) w.heap.size (fun _ => True) u6 x6_1) := ⟨by (with_reducible repeat (first | apply ra_' | apply rn_' | apply rd1_')); exact xi_' (Kd.R_far (p := ⟨gb1073, 1, none⟩) (Kd.R_far (p := ⟨gb1073, 0, none⟩) (Kd.R_types HO_6.out BK1073.out (by decide)) (fun _ hk => hk.2) (.int .i64 t1070)) (fun _ hk => hk.2) (.int .i64 t1071)) (fun _ hk => trivial)⟩
         have n1_ : Aside0 (((w17.setCell ⟨gb1073, 0, none⟩ (.int .i64 t1070)).setCell ⟨gb1073, 1, none⟩ (.int .i64 t1071)).heap[gb1073]? = some (.cells #[.int .i64 t1070, .int .i64 t1071] 134 (0, 0))) := ⟨by (with_reducible repeat (first | refine kn_' ?_ _ | refine kd_' ?_ | refine ka_' ?_ _)); refine blk_put (cs := #[.int .i64 t1070, .int .i64 0]) ?_ 1 _ rfl; (with_reducible repeat (first | refine kn_' ?_ _ | refine kd_' ?_ | refine ka_' ?_ _)); refine blk_put (cs := #[.int .i64 0, .int .i64 0]) ?_ 0 _ rfl; (with_reducible repeat (first | refine kn_' ?_ _ | refine kd_' ?_ | refine ka_' ?_ _)); exact BK1073.out⟩
         have n2_ : Aside0 (Below w.heap.size w ((w17.setCell ⟨gb1073, 0, none⟩ (.int .i64 t1070)).setCell ⟨gb1073, 1, none⟩ (.int .i64 t1071))) := ⟨by repeat (first | (with_reducible first | exact HB.out | apply pa_' | apply pn_' | apply pd_' | refine pt_' ?_ GE1073.out) | exact HB.out)⟩
         (try clear HO_6)
         (try clear BK1073)
         (try clear HB)
         generalize ((w17.setCell ⟨gb1073, 0, none⟩ (.int .i64 t1070)).setCell ⟨gb1073, 1, none⟩ (.int .i64 t1071)) = w19 at n0_ n1_ n2_ ⊢
         have HO_6 := n0_
         have BK1073 := n1_
         have HB := n2_
         clear n0_ n1_ n2_
         have n0_ := sk_' (rd1_' HO_6.out)
         have n1_ := sk_' (kd_' BK1073.out)
         have n2_ := sk_' (pd_' HB.out)
         clear HO_6
         clear BK1073
         clear HB
         have HO_6 := n0_
         have BK1073 := n1_
         have HB := n2_
         clear n0_ n1_ n2_
         have p1075 : 0 ≤ (x7_1 : Int) := od_' (by first | (with_reducible assumption) | assumption)
         have q1075 : x7_1 < (l0.length : Int) := od_' (by first | (with_reducible assumption) | assumption)
         obtain ⟨ad1075, e1075, hx1075_0, hx1075_1, hx1075_2, hx1075_3⟩ := at_T118 HR0.out x7_1 p1075 q1075
         have hw1075_3 := hx1075_3
         have hw1075_2 := hx1075_2
         have hw1075_1 := hx1075_1
         have hw1075_0 := hx1075_0
         obtain rfl : ad1069 = ad1075 := (by injection e1075)
         replace hx1075_0 := (HB.out.cell (bq_' w _ hx1075_0)).trans hx1075_0
         replace hx1075_1 := (HB.out.cell (bq_' w _ hx1075_1)).trans hx1075_1
         replace hx1075_2 := (HB.out.cell (bq_' w _ hx1075_2)).trans hx1075_2
         replace hx1075_3 := (HB.out.cell (bq_' w _ hx1075_3)).trans hx1075_3
         replace p1075 := eq_true p1075
         replace q1075 := eq_true q1075
         refine start_ (n := 11) (S := fun w' => w'.cell? ⟨gb1073, 0, none⟩ = some (.int .i64 t1070) ∧ w'.cell? ⟨gb1073, 1, none⟩ = some (.int .i64 t1071) ∧ w'.cell? (ad1069.add ((x7_1).toNat * 4)) = some (.int .i64 ((rd_T118 l0 x7_1).f0)) ∧ w'.cell? ⟨(ad1069.add ((x7_1).toNat * 4)).block, (ad1069.add ((x7_1).toNat * 4)).off + 1, none⟩ = some (.int .i64 ((rd_T118 l0 x7_1).f1)) ∧ w'.cell? ⟨(ad1069.add ((x7_1).toNat * 4)).block, (ad1069.add ((x7_1).toNat * 4)).off + 2, none⟩ = some (.int .i64 ((rd_T118 l0 x7_1).f2)) ∧ w'.cell? ⟨(ad1069.add ((x7_1).toNat * 4)).block, (ad1069.add ((x7_1).toNat * 4)).off + 3, none⟩ = some (.int .i64 ((rd_T118 l0 x7_1).f3))) (ds := []) #[false, false, false, false, false, false, false, false, false, false, false] (by kernel_rfl) rfl rfl ⟨(kc_' BK1073.out 0).trans rfl, (kc_' BK1073.out 1).trans rfl, ((HB.out.cell (bq_' w _ hw1075_0)).trans hw1075_0), ((HB.out.cell (bq_' w _ hw1075_1)).trans hw1075_1), ((HB.out.cell (bq_' w _ hw1075_2)).trans hw1075_2), ((HB.out.cell (bq_' w _ hw1075_3)).trans hw1075_3)⟩ (fun hHeld => ?_); refine with_tabW spec_PlayScore.tab8 spec_PlayScore.bits8 (fun HT_ HW_ => ?_)
         generalize w19.drew = w20 at HO_6 BK1073 HB hx1075_0 hx1075_1 hx1075_2 hx1075_3 hHeld ⊢
         refine pure_ (i := 0) (N := some 34) (v := ?_) (a' := ?_) #[true, false, false, false, false, false, false, false, false, false, false] rfl rfl (any_of HT_.out (by kernel_rfl)) (fun _ _ _ h => h) (Or.inl ⟨by rfl, ?_⟩) ?_ ?_
         rotate_left
         ·
          intro w'
          go_simp
          with_reducible rfl
         rotate_left
         ·
          simp only [Act.put, sa_', sz_', sc_', i64_w, i32_w]
          rfl
         refine pure_ (i := 3) (N := some 37) (v := ?_) (a' := ?_) #[true, false, false, true, false, false, false, false, false, false, false] rfl rfl (any_of HT_.out (by kernel_rfl)) (fun _ _ _ h => h) (Or.inl ⟨by rfl, ?_⟩) ?_ ?_
         rotate_left
         ·
          intro w'
          go_simp
          with_reducible rfl
         rotate_left
         ·
          simp only [Act.put, sa_', sz_', sc_', i64_w, i32_w]
          rfl
         refine pure_ (i := 4) (N := some 38) (v := ?_) (a' := ?_) #[true, false, false, true, true, false, false, false, false, false, false] rfl rfl (any_of HT_.out (by kernel_rfl)) (fun _ _ _ h => h) (Or.inl ⟨by rfl, ?_⟩) ?_ ?_
         rotate_left
         ·
          intro w'
          go_simp
          with_reducible rfl
         rotate_left
         ·
          simp only [Act.put, sa_', sz_', sc_', i64_w, i32_w]
          rfl
         refine pure_ (i := 5) (N := some 39) (v := ?_) (a' := ?_) #[true, false, false, true, true, true, false, false, false, false, false] rfl rfl (any_of HT_.out (by kernel_rfl)) (fun _ _ _ h => h) (Or.inl ⟨by rfl, ?_⟩) ?_ ?_
         rotate_left
         ·
          intro w'
          go_simp
          with_reducible rfl
         rotate_left
         ·
          simp only [Act.put, sa_', sz_', sc_', i64_w, i32_w]
          rfl
         refine pure_ (i := 6) (N := some 40) (v := ?_) (a' := ?_) #[true, false, false, true, true, true, true, false, false, false, false] rfl rfl (any_of HT_.out (by kernel_rfl)) (fun _ _ _ h => h) (Or.inl ⟨by rfl, ?_⟩) ?_ ?_
         rotate_left
         ·
          intro w'
          go_simp
          with_reducible rfl
         rotate_left
         ·
          simp only [Act.put, sa_', sz_', sc_', i64_w, i32_w]
          rfl
         refine take_ (i := 1) (N := some 35) (v := ?_) (a' := ?_) #[true, true, false, true, true, true, true, false, false, false, false] rfl rfl (take_ofW HT_.out HW_.out (by kernel_rfl)) (fun _ _ _ h => h) (Or.inl ⟨by rfl, ?_⟩) hHeld ?_ ?_
         rotate_left
         ·
          rintro w' ⟨s0, s1, s2, s3, s4, s5⟩
          go_simp
          with_reducible rfl
         rotate_left
         ·
          simp only [Act.put, sa_', sz_', sc_', i64_w, i32_w]
          rfl
         refine take_ (i := 7) (N := some 41) (v := ?_) (a' := ?_) #[true, true, false, true, true, true, true, true, false, false, false] rfl rfl (take_ofW HT_.out HW_.out (by kernel_rfl)) (fun _ _ _ h => h) (Or.inl ⟨by rfl, ?_⟩) hHeld ?_ ?_
         rotate_left
         ·
          rintro w' ⟨s0, s1, s2, s3, s4, s5⟩
          go_simp
          with_reducible rfl
         rotate_left
         ·
          simp only [Act.put, sa_', sz_', sc_', i64_w, i32_w]
          rfl
         refine one_ (i := 2) (N := some 36) #[true, true, true, true, true, true, true, true, false, false, false] rfl rfl (one_of HT_.out (by kernel_rfl)) (by decide) (fun K hK => ?_)
         refine goes_ Try.func113 (by kernel_rfl) rfl #[.agg #[.int .i64 t1070, .int .i64 t1071]] (by rfl) rfl rfl (by (try simp only [xm_', xc_', xn_']); first | done | rfl | (simp only [xd_', xt_']; rfl)) ?_
         with_reducible refine (spec_FloorRatio.calls kj4 t1070 t1071 t1074 _ A14.out).mono ?_
         rintro e w21 ⟨rfl, hb⟩
         refine ⟨_, rfl, ?_⟩
         have n0_ := sk_' (xb_' (rm HO_6) hb)
         have n1_ := sk_' (blk_below (g := gb1073) (o := .cells #[.int .i64 t1070, .int .i64 t1071] 134 (0, 0)) (km BK1073) hb)
         have n2_ := sk_' (pp_' (bm HB) hb)
         clear HO_6
         clear BK1073
         clear HB
         have HO_6 := n0_
         have BK1073 := n1_
         have HB := n2_
         clear n0_ n1_ n2_
         (try clear hb)
         (try clear hb2)
         (try clear hk)
         (try clear hi)
         obtain ⟨Ao22, co22, eo22⟩ := Kd.R_slice HO_6.out
         (first | subst eo22 | (injection eo22 with f1_ f2_ f3_; have f4_ := f1_.symm; have f5_ := f3_.symm; clear f1_ f2_ f3_; subst f4_; subst f5_))
         refine hK.out _ _ ⟨(kc_' BK1073.out 0).trans rfl, (kc_' BK1073.out 1).trans rfl, ((HB.out.cell (bq_' w _ hw1075_0)).trans hw1075_0), ((HB.out.cell (bq_' w _ hw1075_1)).trans hw1075_1), ((HB.out.cell (bq_' w _ hw1075_2)).trans hw1075_2), ((HB.out.cell (bq_' w _ hw1075_3)).trans hw1075_3)⟩ (fun hHeld => ?_)
         clear hK K
         refine norm_ (a' := ?_) ?_ ?_
         rotate_left
         ·
          show Act.put _ (some 36) _ = _
          simp only [Act.put, sa_', sz_', sc_', i64_w, i32_w]
          rfl
         refine pure_ (i := 8) (N := some 42) (v := ?_) (a' := ?_) #[true, true, true, true, true, true, true, true, true, false, false] rfl rfl (any_of HT_.out (by kernel_rfl)) (fun _ _ _ h => h) (Or.inl ⟨by rfl, ?_⟩) ?_ ?_
         rotate_left
         ·
          intro w'
          go_simp
          with_reducible rfl
         rotate_left
         ·
          simp only [Act.put, sa_', sz_', sc_', i64_w, i32_w]
          rfl
         refine one_ (i := 9) (N := some 43) #[true, true, true, true, true, true, true, true, true, true, false] rfl rfl (one_of HT_.out (by kernel_rfl)) (by decide) (fun K hK => ?_)
         refine goes_ Try.func112 (by kernel_rfl) rfl #[.slice Ao22 x6_1.length co22, .agg #[.int .i64 t1074, .int .i64 ((rd_T118 l0 x7_1).f2)]] (by rfl) rfl rfl (by (try simp only [xm_', xc_', xn_']); first | done | rfl | (simp only [xd_', xt_']; rfl)) ?_
         with_reducible refine (spec_l14Put.calls kj4 _ _ x6_1 t1074 ((rd_T118 l0 x7_1).f2) t1076 _ ?side1 ?side2 A15.out).mono ?_
         (case side1 => repeat (first | exact (xr_' HO_6.out).2.2 | (with_reducible refine xg_' ?_ _) | (with_reducible refine xe_' ?_ _) | (with_reducible refine xf_' ?_)))
         (case side2 => exact (xr_' HO_6.out).2.1)
         rintro e w23 ⟨v1077, rfl, ho0, hb⟩
         refine ⟨_, rfl, ?_⟩
         have n0_ := sk_' (Kd.R_elder' (rm HO_6) (Kd.R_base ho0) hb)
         have n1_ := sk_' (Kd.R_lower (Kd.R_new' ho0 (Kd.R_lt (rm HO_6))) (ps_' (bm HB)))
         have n2_ := sk_' (blk_below (g := gb1073) (o := .cells #[.int .i64 t1070, .int .i64 t1071] 134 (0, 0)) (km BK1073) hb)
         have n3_ := sk_' (pp_' (bm HB) hb)
         clear HO_6
         clear BK1073
         clear HB
         have HO_6 := n0_
         have HO1078 := n1_
         have BK1073 := n2_
         have HB := n3_
         clear n0_ n1_ n2_ n3_
         (try clear hb)
         (try clear hb2)
         (try clear hk)
         (try clear hi)
         (try clear ho0)
         refine hK.out _ _ ⟨(kc_' BK1073.out 0).trans rfl, (kc_' BK1073.out 1).trans rfl, ((HB.out.cell (bq_' w _ hw1075_0)).trans hw1075_0), ((HB.out.cell (bq_' w _ hw1075_1)).trans hw1075_1), ((HB.out.cell (bq_' w _ hw1075_2)).trans hw1075_2), ((HB.out.cell (bq_' w _ hw1075_3)).trans hw1075_3)⟩ (fun hHeld => ?_)
         clear hK K
         refine norm_ (a' := ?_) ?_ ?_
         rotate_left
         ·
          show Act.put _ (some 43) _ = _
          simp only [Act.put, sa_', sz_', sc_', i64_w, i32_w]
          rfl
         refine pure_ (i := 10) (N := some 6) (v := ?_) (a' := ?_) #[true, true, true, true, true, true, true, true, true, true, true] rfl rfl (any_of HT_.out (by kernel_rfl)) (fun _ _ _ h => h) (Or.inl ⟨by rfl, ?_⟩) ?_ ?_
         rotate_left
         ·
          intro w'
          go_simp
          with_reducible rfl
         rotate_left
         ·
          simp only [Act.put, sa_', sz_', sc_', i64_w, i32_w]
          rfl
         refine done_ (done_of HT_.out (by kernel_rfl)) ?_
         try go_wp2
         go_roundg kj4
         case measure => have := HK1.out; have := HJ4.out; omega
         case rel => exact ⟨(t1076), (wrap64 (x7_1 + 1)), rfl, H', ⟨by have := HK1.out; have := HJ4.out; omega⟩, ⟨by (with_reducible repeat (first | apply ra_' | apply rn_' | apply rd1_')); exact xi_' HO1078.out (fun _ hk => trivial)⟩, ⟨bm HB⟩⟩
        replace c13 := Bool.eq_false_iff.mpr c13
        subst c13
        rw [if_neg (show ¬ (false = true) by decide)] at H
        obtain ⟨y1079, hy1079⟩ : ∃ y_ : List (S109), y_ = (([] : List (S109))) := ⟨_, rfl⟩
        replace H : (some (y1079, false)) = some (r1, r2) := by first | (rw [hy1079]; with_reducible exact H) | (have H2_ := (Option.bind_some _ _).symm.trans H; rw [hy1079]; with_reducible exact H2_) | (have H2_ := (Option.bind_some _ _).symm.trans H; with_reducible exact H2_) | with_reducible exact H | (rw [hy1079]; exact H) | exact H
        have Ny1079 := sk_' hy1079
        clear hy1079
        simp only [Option.some.injEq, Prod.mk.injEq] at H
        obtain ⟨rfl, rfl⟩ := H
        have p1069 : 0 ≤ (x7_1 : Int) := od_' (by first | (with_reducible assumption) | assumption)
        have q1069 : x7_1 < (l0.length : Int) := od_' (by first | (with_reducible assumption) | assumption)
        obtain ⟨ad1069, e1069, hx1069_0, hx1069_1, hx1069_2, hx1069_3⟩ := at_T118 HR0.out x7_1 p1069 q1069
        cases e1069
        replace hx1069_0 := (HB.out.cell (bq_' w _ hx1069_0)).trans hx1069_0
        replace hx1069_1 := (HB.out.cell (bq_' w _ hx1069_1)).trans hx1069_1
        replace hx1069_2 := (HB.out.cell (bq_' w _ hx1069_2)).trans hx1069_2
        replace hx1069_3 := (HB.out.cell (bq_' w _ hx1069_3)).trans hx1069_3
        replace p1069 := eq_true p1069
        replace q1069 := eq_true q1069
        go_wp2_with (first | ((with_reducible refine xj_' (f := 111) rfl ?_); refine goesL_ (some 28) rfl rfl Try.func111 (by kernel_rfl) rfl #[.slice A1 l1.length c1, .int .i64 ((rd_T118 l0 x7_1).f0)] rfl (by (try simp only [xm_', xc_', xn_']); first | done | rfl | (simp only [xd_', xt_']; rfl)) ?_; (with_reducible refine (spec_TimeOf.calls kj4 _ _ l1 ((rd_T118 l0 x7_1).f0) t1070 t1071 false _ ?side1 ?side2 A12.out).mono ?_); (case side1 => repeat (first | exact (Kd.C_below HR1.out HB.out) | (with_reducible refine xg_' ?_ _) | (with_reducible refine xe_' ?_ _) | (with_reducible refine xf_' ?_))); (case side2 => exact HC1.out); rintro e w24 ⟨rfl, hb⟩; refine ⟨_, rfl, ?_⟩; have n0_ := sk_' (xb_' (by (with_reducible repeat (first | apply ra_' | apply rn_' | apply rd1_')); exact HO_6.out) hb); have n1_ := sk_' (pp_' (by repeat (first | (with_reducible first | exact HB.out | apply pa_' | apply pn_' | apply pd_') | exact HB.out)) hb); clear HO_6; clear HB; have HO_6 := n0_; have HB := n1_; clear n0_ n1_; (try clear hb); (try clear hb2); (try clear hk); (try clear hi)) | ((with_reducible refine gate_dst (N := 8) rfl ?_); refine box_event ?hg (N := 8) ?hd (cs := #[.int .i64 0, .int .i64 0]) (t := 134) ?hr ?_; (case hd => rfl); (case hg => rfl); (case hr => first | (go_simp; done) | (go_simp; rfl)); intro gb1073 hg w25 hbox hb; have n0_ := sk_' (xb_' (by (with_reducible repeat (first | apply ra_' | apply rn_' | apply rd1_')); exact HO_6.out) hb); have n1_ := sk_' (pp_' (by repeat (first | (with_reducible first | exact HB.out | apply pa_' | apply pn_' | apply pd_') | exact HB.out)) hb); have n2_ := sk_' (hbox); have n3_ := sk_' ((by rw [hg]; exact (ps_' (by repeat (first | (with_reducible first | exact HB.out | apply pa_' | apply pn_' | apply pd_') | exact HB.out))) : w.heap.size ≤ gb1073)); have n4_ := sk_' ((by rw [hg]; exact (ps_' (by repeat (first | (with_reducible first | exact HB.out | apply pa_' | apply pn_' | apply pd_') | exact HB.out))) : w.heap.size ≤ gb1073)); clear HO_6; clear HB; have HO_6 := n0_; have HB := n1_; have BK1073 := n2_; have GW1073 := n3_; have GE1073 := n4_; clear n0_ n1_ n2_ n3_ n4_; clear hb hbox hg; have hcz26_0 : w25.cell? ⟨gb1073, 0, none⟩ = some (.int .i64 0) := (kc_' BK1073.out 0).trans rfl; have hcz26_1 : w25.cell? ⟨gb1073, 1, none⟩ = some (.int .i64 0) := (kc_' BK1073.out 1).trans rfl; have hfz26_0 := kf_' BK1073.out 0; have hfz26_1 := kf_' BK1073.out 1) | ((with_reducible refine gate_dst (N := 33) rfl ?_); refine Kd.R_lit k109 _ 109 ?hg (N := 33) ?hd (xs := ([] : List (S109))) (inner := []) (ok := fun _ => True) (okp := fun _ => True) ?hr ?hp (fun _ hk => hk) trivial (Below.refl _ _) (Nat.le_refl _) (by simp) ?_; (case hd => rfl); (case hg => rfl); (case hr => first | (go_simp; done) | (go_simp; rfl)); (case hp => exact (Reps.none _ _)); intro v1080 w27 ho28 hb hg_ hnew_; clear hg_ hnew_; (first | rw [← Ny1079.out] at ho28 | (simp only [Int.reduceToNat] at ho28; rw [← Ny1079.out] at ho28)); have n0_ := sk_' (Kd.R_elder' (by (with_reducible repeat (first | apply ra_' | apply rn_' | apply rd1_')); exact (xi_' (Kd.R_far (p := ⟨gb1073, 1, none⟩) (Kd.R_far (p := ⟨gb1073, 0, none⟩) (Kd.R_types HO_6.out BK1073.out (by decide)) (fun _ hk => hk.2) (.int .i64 t1070)) (fun _ hk => hk.2) (.int .i64 t1071)) (fun _ h_ => h_.1))) (Kd.R_base ho28) hb); have n1_ := sk_' (Kd.R_lower (Kd.R_new' ho28 (Kd.R_lt (by (with_reducible repeat (first | apply ra_' | apply rn_' | apply rd1_')); exact (xi_' (Kd.R_far (p := ⟨gb1073, 1, none⟩) (Kd.R_far (p := ⟨gb1073, 0, none⟩) (Kd.R_types HO_6.out BK1073.out (by decide)) (fun _ hk => hk.2) (.int .i64 t1070)) (fun _ hk => hk.2) (.int .i64 t1071)) (fun _ h_ => h_.1))))) (ps_' (by repeat (first | (with_reducible first | exact HB.out | apply pa_' | apply pn_' | apply pd_' | refine pt_' ?_ GE1073.out) | exact HB.out)))); have n2_ := sk_' (blk_below (g := gb1073) (o := .cells #[.int .i64 t1070, .int .i64 t1071] 134 (0, 0)) (by (with_reducible repeat (first | refine kn_' ?_ _ | refine kd_' ?_ | refine ka_' ?_ _)); refine blk_put (cs := #[.int .i64 t1070, .int .i64 0]) ?_ 1 _ rfl; (with_reducible repeat (first | refine kn_' ?_ _ | refine kd_' ?_ | refine ka_' ?_ _)); refine blk_put (cs := #[.int .i64 0, .int .i64 0]) ?_ 0 _ rfl; (with_reducible repeat (first | refine kn_' ?_ _ | refine kd_' ?_ | refine ka_' ?_ _)); exact BK1073.out) hb); have n3_ := sk_' (pp_' (by repeat (first | (with_reducible first | exact HB.out | apply pa_' | apply pn_' | apply pd_' | refine pt_' ?_ GE1073.out) | exact HB.out)) hb); clear HO_6; clear BK1073; clear HB; have HO_6 := n0_; have HO1081 := n1_; have BK1073 := n2_; have HB := n3_; clear n0_ n1_ n2_ n3_; clear hb ho28))
        go_ret2
        exact ⟨_, by first | rfl | (simp [errW_none, errW_some] <;> rfl) | (simp [*, errW_none, errW_some] <;> rfl), by (with_reducible repeat (first | apply ra_' | apply rn_' | apply rd1_')); exact xi_' HO1081.out (fun _ hk => trivial), by repeat (first | (with_reducible first | exact HB.out | apply pa_' | apply pn_' | apply pd_' | refine pt_' ?_ GE1073.out) | exact HB.out)⟩
       rw [if_neg c11] at H
       exact absurd H (by simp)
      rw [if_neg c10] at H
      exact absurd H (by simp)
     replace c9 := Bool.eq_false_iff.mpr c9
     subst c9
     rw [if_neg (show ¬ (false = true) by decide)] at H
     replace H := bs_' H
     obtain ⟨t1068, A290, H⟩ := H
     try dsimp only at H
     have A29 := sk_' A290
     clear A290
     simp only [Option.some.injEq, Prod.mk.injEq] at H
     obtain ⟨rfl, rfl⟩ := H
     go_wp2_with (first | ((with_reducible refine xj_' (f := 95) rfl ?_); refine goesL_ (some 46) rfl rfl Try.func95 (by kernel_rfl) rfl #[.slice A0 l0.length c0] rfl (by (try simp only [xm_', xc_', xn_']); first | done | rfl | (simp only [xd_', xt_']; rfl)) ?_; (with_reducible refine (spec_IsScore.calls kj4 _ _ l0 t1068 _ ?side1 ?side2 A29.out).mono ?_); (case side1 => repeat (first | exact (Kd.C_below HR0.out HB.out) | (with_reducible refine xg_' ?_ _) | (with_reducible refine xe_' ?_ _) | (with_reducible refine xf_' ?_))); (case side2 => exact HC0.out); rintro e w30 ⟨rfl, hb⟩; refine ⟨_, rfl, ?_⟩; have n0_ := sk_' (xb_' (by (with_reducible repeat (first | apply ra_' | apply rn_' | apply rd1_')); exact HO_6.out) hb); have n1_ := sk_' (pp_' (by repeat (first | (with_reducible first | exact HB.out | apply pa_' | apply pn_' | apply pd_') | exact HB.out)) hb); clear HO_6; clear HB; have HO_6 := n0_; have HB := n1_; clear n0_ n1_; (try clear hb); (try clear hb2); (try clear hk); (try clear hi)))
     go_ret2
     exact ⟨_, by first | rfl | (simp [errW_none, errW_some] <;> rfl) | (simp [*, errW_none, errW_some] <;> rfl), by (with_reducible repeat (first | apply ra_' | apply rn_' | apply rd1_')); exact HO_6.out, by repeat (first | (with_reducible first | exact HB.out | apply pa_' | apply pn_' | apply pd_') | exact HB.out)⟩
end Go.Proofs.Ytiophiipmgpaeaa.F

namespace Go.Proofs.Ytiophiipmgpaeaa.F
open Go.RowKit Go.Proofs.YtiophiipmgpaeaaW.PrintWords Go.Proofs.YtiophiipmgpaeaaW.PrintLast Go.Proofs.YtiophiipmgpaeaaW.PrintMore
attribute [local go_sem] max2_int min2_int max_two min_two max_three min_three max_four min_four
set_option linter.unusedVariables false
set_option linter.unusedSimpArgs false
def laws_toTempo.f (a0_0 : Int) (a0_1 : Int) : Option (Int × Int) := some (a0_0, a0_1)
set_option maxHeartbeats 8000000 in
set_option maxRecDepth 100000 in
theorem laws_toTempo.calls (a0_0 : Int) (a0_1 : Int) (r1 : Int) (r2 : Int) (w : World) (h : laws_toTempo.f a0_0 a0_1 = some (r1, r2)) :
  Calls Try.prog 114 #[.agg #[.int .i64 a0_0, .int .i64 a0_1]] w fun e w' => e = .returned (.agg #[.int .i64 r1, .int .i64 r2]) ∧ Below w.heap.size w w' := by
 have hu142 := Try.underlying142
 have hu140 := Try.underlying140
 have HB := sk_' (Below.refl w.heap.size w)
 have H : (some (a0_0, a0_1)) = some (r1, r2) := h
 clear h
 simp only [Option.some.injEq, Prod.mk.injEq] at H
 obtain ⟨rfl, rfl⟩ := H
 go_enter Try.func114, Try.ntmps114
 go_wp2_with (first | ((with_reducible refine gate_dst (N := 1) rfl ?_); refine box_event ?hg (N := 1) ?hd (cs := #[.int .i64 a0_0, .int .i64 a0_1]) (t := 142) ?hr ?_; (case hd => rfl); (case hg => rfl); (case hr => first | (go_simp; done) | (go_simp; rfl)); intro gb1082 hg w2 hbox hb; have n0_ := sk_' (pp_' (bm HB) hb); have n1_ := sk_' (hbox); have n2_ := sk_' ((by rw [hg]; exact (ps_' (bm HB)) : w.heap.size ≤ gb1082)); have n3_ := sk_' ((by rw [hg]; exact (ps_' (bm HB)) : w.heap.size ≤ gb1082)); clear HB; have HB := n0_; have BK1082 := n1_; have GW1082 := n2_; have GE1082 := n3_; clear n0_ n1_ n2_ n3_; clear hb hbox hg) | ((with_reducible refine gate_dst (N := 2) rfl ?_); refine box_event ?hg (N := 2) ?hd (cs := #[.int .i64 0, .int .i64 0]) (t := 140) ?hr ?_; (case hd => rfl); (case hg => rfl); (case hr => first | (go_simp; done) | (go_simp; rfl)); intro gb1083 hg w3 hbox hb; have n0_ := sk_' (blk_below (g := gb1082) (o := .cells #[.int .i64 a0_0, .int .i64 a0_1] 142 (0, 0)) (km BK1082) hb); have n1_ := sk_' (pp_' (bm HB) hb); have n2_ := sk_' (hbox); have n3_ := sk_' ((by rw [hg]; exact (ps_' (bm HB)) : w.heap.size ≤ gb1083)); have n4_ := sk_' ((by rw [hg]; exact (ps_' (bm HB)) : w.heap.size ≤ gb1083)); have n5_ := sk_' ((by rw [hg]; exact Nat.ne_of_lt (blk_lt (g := gb1082) (o := .cells #[.int .i64 a0_0, .int .i64 a0_1] 142 (0, 0)) (km BK1082)) : gb1082 ≠ gb1083)); have n6_ := sk_' ((by rw [hg]; exact Nat.ne_of_gt (blk_lt (g := gb1082) (o := .cells #[.int .i64 a0_0, .int .i64 a0_1] 142 (0, 0)) (km BK1082)) : gb1083 ≠ gb1082)); clear BK1082; clear HB; have BK1082 := n0_; have HB := n1_; have BK1083 := n2_; have GW1083 := n3_; have GE1083 := n4_; have NB1082_1083 := n5_; have NB1083_1082 := n6_; clear n0_ n1_ n2_ n3_ n4_ n5_ n6_; clear hb hbox hg) | ((with_reducible refine gate_dst (N := 3) rfl ?_); refine box_event ?hg (N := 3) ?hd (cs := #[.int .i64 0, .int .i64 0]) (t := 140) ?hr ?_; (case hd => rfl); (case hg => rfl); (case hr => first | (go_simp; done) | (go_simp; rfl)); intro gb1084 hg w4 hbox hb; have n0_ := sk_' (blk_below (g := gb1082) (o := .cells #[.int .i64 a0_0, .int .i64 a0_1] 142 (0, 0)) (km BK1082) hb); have n1_ := sk_' (blk_below (g := gb1083) (o := .cells #[.int .i64 0, .int .i64 0] 140 (0, 0)) (km BK1083) hb); have n2_ := sk_' (pp_' (bm HB) hb); have n3_ := sk_' (hbox); have n4_ := sk_' ((by rw [hg]; exact (ps_' (bm HB)) : w.heap.size ≤ gb1084)); have n5_ := sk_' ((by rw [hg]; exact (ps_' (bm HB)) : w.heap.size ≤ gb1084)); have n6_ := sk_' ((by rw [hg]; exact Nat.ne_of_lt (blk_lt (g := gb1082) (o := .cells #[.int .i64 a0_0, .int .i64 a0_1] 142 (0, 0)) (km BK1082)) : gb1082 ≠ gb1084)); have n7_ := sk_' ((by rw [hg]; exact Nat.ne_of_gt (blk_lt (g := gb1082) (o := .cells #[.int .i64 a0_0, .int .i64 a0_1] 142 (0, 0)) (km BK1082)) : gb1084 ≠ gb1082)); have n8_ := sk_' ((by rw [hg]; exact Nat.ne_of_lt (blk_lt (g := gb1083) (o := .cells #[.int .i64 0, .int .i64 0] 140 (0, 0)) (km BK1083)) : gb1083 ≠ gb1084)); have n9_ := sk_' ((by rw [hg]; exact Nat.ne_of_gt (blk_lt (g := gb1083) (o := .cells #[.int .i64 0, .int .i64 0] 140 (0, 0)) (km BK1083)) : gb1084 ≠ gb1083)); clear BK1082; clear BK1083; clear HB; have BK1082 := n0_; have BK1083 := n1_; have HB := n2_; have BK1084 := n3_; have GW1084 := n4_; have GE1084 := n5_; have NB1082_1084 := n6_; have NB1084_1082 := n7_; have NB1083_1084 := n8_; have NB1084_1083 := n9_; clear n0_ n1_ n2_ n3_ n4_ n5_ n6_ n7_ n8_ n9_; clear hb hbox hg; have hnb5 := NB1082_1083.out; have hnc5 := NB1083_1082.out; have hnb6 := NB1082_1084.out; have hnc6 := NB1084_1082.out; have hcz7_0 : w4.cell? ⟨gb1082, 0, none⟩ = some (.int .i64 a0_0) := (kc_' BK1082.out 0).trans rfl; have hcz7_1 : w4.cell? ⟨gb1082, 1, none⟩ = some (.int .i64 a0_1) := (kc_' BK1082.out 1).trans rfl; have hfz7_0 := kf_' BK1082.out 0; have hfz7_1 := kf_' BK1082.out 1; have hnb8 := NB1084_1083.out; have hnc8 := NB1083_1084.out; have hcz9_0 : w4.cell? ⟨gb1084, 0, none⟩ = some (.int .i64 0) := (kc_' BK1084.out 0).trans rfl; have hcz9_1 : w4.cell? ⟨gb1084, 1, none⟩ = some (.int .i64 0) := (kc_' BK1084.out 1).trans rfl; have hfz9_0 := kf_' BK1084.out 0; have hfz9_1 := kf_' BK1084.out 1; have hcz10_0 : w4.cell? ⟨gb1083, 0, none⟩ = some (.int .i64 0) := (kc_' BK1083.out 0).trans rfl; have hcz10_1 : w4.cell? ⟨gb1083, 1, none⟩ = some (.int .i64 0) := (kc_' BK1083.out 1).trans rfl; have hfz10_0 := kf_' BK1083.out 0; have hfz10_1 := kf_' BK1083.out 1))
 refine bodyPost_ret (results_cell_row rfl _ _ gb1083 140 #[.int .i64 a0_0, .int .i64 a0_1] (0, 0) _ rfl (by (with_reducible repeat (first | refine kn_' ?_ _ | refine kd_' ?_ | refine ka_' ?_ _)); refine blk_put (cs := #[.int .i64 a0_0, .int .i64 0]) ?_ 1 _ rfl; (with_reducible repeat (first | refine kn_' ?_ _ | refine kd_' ?_ | refine ka_' ?_ _)); refine blk_put (cs := #[.int .i64 0, .int .i64 0]) ?_ 0 _ rfl; (with_reducible repeat (first | refine kn_' ?_ _ | refine kd_' ?_ | refine ka_' ?_ _)); refine blk_far ?_ NB1083_1084.out _; (with_reducible repeat (first | refine kn_' ?_ _ | refine kd_' ?_ | refine ka_' ?_ _)); refine blk_far ?_ NB1083_1084.out _; (with_reducible repeat (first | refine kn_' ?_ _ | refine kd_' ?_ | refine ka_' ?_ _)); exact BK1083.out) Try.underlying140 rfl (by kernel_rfl)) rfl ?_
 exact ⟨by first | rfl | (simp [errW_none, errW_some] <;> rfl) | (simp [*, errW_none, errW_some] <;> rfl), by repeat (first | (with_reducible first | exact HB.out | apply pa_' | apply pn_' | apply pd_' | refine pt_' ?_ GE1082.out | refine pt_' ?_ GE1083.out | refine pt_' ?_ GE1084.out) | exact HB.out)⟩
end Go.Proofs.Ytiophiipmgpaeaa.F

namespace Go.Proofs.Ytiophiipmgpaeaa.F
open Go.RowKit Go.Proofs.YtiophiipmgpaeaaW.PrintWords Go.Proofs.YtiophiipmgpaeaaW.PrintLast Go.Proofs.YtiophiipmgpaeaaW.PrintMore
attribute [local go_sem] max2_int min2_int max_two min_two max_three min_three max_four min_four
set_option linter.unusedVariables false
set_option linter.unusedSimpArgs false
def laws_toTempoS.l0 : Nat → List (S142) → List (S140) → Int → Option ((List (S140)))
 | 0, _, _, _ => none
 | k + 1, x0, x3, x4 => if x4 < (x0.length : Int) then (if 0 ≤ x4 then ((laws_toTempo.f ((rd_T142 x0 x4).f0) ((rd_T142 x0 x4).f1)).bind fun bt1089 => (if x4 < (x3.length : Int) then (laws_toTempoS.l0 k x0 (x3.set (x4 : Int).toNat (⟨bt1089.1, bt1089.2⟩ : S140)) (wrap64 (x4 + 1))) else (none))) else (none)) else (some x3)
def laws_toTempoS.f (k : Nat) (l0 : List (S142)) : Option ((List (S140))) := if 0 ≤ (l0.length : Int) then (if ((l0.length : Int) : Int).toNat ≤ 17592186044416 then (laws_toTempoS.l0 k l0 (List.replicate ((l0.length : Int) : Int).toNat z140) 0) else (none)) else (none)
set_option maxHeartbeats 8000000 in
set_option maxRecDepth 100000 in
theorem laws_toTempoS.calls (k : Nat) (A0 : Option Addr) (c0 : Nat) (l0 : List (S142)) (r : List (S140)) (w : World) (hr0 : Kd.C k142 w A0 l0.length l0) (hc0 : l0.length ≤ c0) (h : laws_toTempoS.f k l0 = some r) :
  Calls Try.prog 58 #[.slice A0 l0.length c0] w fun e w' => ∃ v0_ : Value, e = .returned (v0_) ∧ Kd.R k140 140 w' w.heap.size (fun _ => True) v0_ r ∧ Below w.heap.size w w' := by
 have hu142 := Try.underlying142
 have hu140 := Try.underlying140
 have HR0 := sk_' hr0
 have HC0 := sk_' hc0
 clear hr0 hc0
 have HB := sk_' (Below.refl w.heap.size w)
 have H : (if 0 ≤ (l0.length : Int) then (if ((l0.length : Int) : Int).toNat ≤ 17592186044416 then (laws_toTempoS.l0 k l0 (List.replicate ((l0.length : Int) : Int).toNat z140) 0) else (none)) else (none)) = some r := h
 clear h
 by_cases c2 : 0 ≤ (l0.length : Int)
 ·
  rw [if_pos c2] at H
  have c2b0 := eq_true c2
  have c2b1 : decide (0 ≤ (l0.length : Int)) = true := decide_eq_true c2
  clear c2
  by_cases c3 : ((l0.length : Int) : Int).toNat ≤ 17592186044416
  ·
   rw [if_pos c3] at H
   have c3b0 := eq_true c3
   have c3b1 : decide (((l0.length : Int) : Int).toNat ≤ 17592186044416) = true := decide_eq_true c3
   clear c3
   obtain ⟨y1085, hy1085⟩ : ∃ y_ : List (S140), y_ = (List.replicate ((l0.length : Int) : Int).toNat z140) := ⟨_, rfl⟩
   replace H : (laws_toTempoS.l0 k l0 y1085 0) = some r := by first | (rw [hy1085]; with_reducible exact H) | (have H2_ := (Option.bind_some _ _).symm.trans H; rw [hy1085]; with_reducible exact H2_) | (have H2_ := (Option.bind_some _ _).symm.trans H; with_reducible exact H2_) | with_reducible exact H | (rw [hy1085]; exact H) | exact H
   have Ny1085 := sk_' hy1085
   clear hy1085
   have H' := sk_' H
   clear H
   go_enter Try.func58, Try.ntmps58
   go_wp2_with (first | ((with_reducible refine gate_dst (N := 7) rfl ?_); refine Kd.R_make k140 _ 140 rfl (N := 7) rfl 74 _ _ rfl (l0.length : Int) rfl rfl Try.underlying74 (.agg #[(.int .i64 0), (.int .i64 0)]) 16 info140 rfl (by decide) (by omega) z140 (ok := fun _ => True) (okp := fun _ => True) (k140_mkM _ _ _ z140 ) (fun _ hk => hk) trivial (od_' (by first | (with_reducible assumption) | assumption)) (Nat.le_trans (Nat.mul_le_mul_right _ (od_' (by first | (with_reducible assumption) | assumption) : (l0.length : Int).toNat ≤ 17592186044416)) (by omega)) (Below.refl _ _) (Nat.le_refl _) ?_; intro v1086 w4 ho5 hb hg_ hnew_; clear hg_ hnew_; (first | rw [← Ny1085.out] at ho5 | (simp only [Int.reduceToNat] at ho5; rw [← Ny1085.out] at ho5)); have n0_ := sk_' (Kd.R_lower ho5 (ps_' (bm HB))); have n1_ := sk_' (pp_' (bm HB) hb); clear HB; have HO1087 := n0_; have HB := n1_; clear n0_ n1_; clear hb ho5))
   go_loopg [4] k (fun kq v4 w' => ∃ (x3_1 : List (S140)) (x4_1 : Int), v4 = .int .i64 x4_1 ∧ Aside0 (laws_toTempoS.l0 kq l0 x3_1 x4_1 = some r) ∧ Aside0 (kq ≤ k) ∧ Aside0 (Kd.R k140 140 w' w.heap.size (fun _ => True) v1086 x3_1) ∧ Aside0 (Below w.heap.size w w'))
   case atStart => exact ⟨(y1085), (0), rfl, H', ⟨Nat.le_refl _⟩, ⟨rm HO1087⟩, ⟨bm HB⟩⟩
   case round =>
    clear H'
    try clear c2
    try clear c2b0
    try clear c2b1
    try clear p2
    try clear c3
    try clear c3b0
    try clear c3b1
    try clear c5
    obtain ⟨x3_1, x4_1, rfl, HA, HK1, HO_3, HB⟩ := hrel
    cases gk with
    | zero => exact absurd HA.out (by simp [laws_toTempoS.l0])
    | succ k1 =>
     have H := HA.out
     clear HA
     simp only [laws_toTempoS.l0] at H
     by_cases c6 : x4_1 < (l0.length : Int)
     ·
      rw [if_pos c6] at H
      have c6b0 : decide (x4_1 < (l0.length : Int)) = true := decide_eq_true c6
      clear c6
      by_cases c7 : 0 ≤ x4_1
      ·
       rw [if_pos c7] at H
       have c7b0 : decide (0 ≤ x4_1) = true := decide_eq_true c7
       clear c7
       replace H := bs_' H
       obtain ⟨⟨t1089, t1090⟩, A80, H⟩ := H
       try dsimp only at H
       have A8 := sk_' A80
       clear A80
       by_cases c9 : x4_1 < (x3_1.length : Int)
       ·
        rw [if_pos c9] at H
        have c9b0 : decide (x4_1 < (x3_1.length : Int)) = true := decide_eq_true c9
        clear c9
        obtain ⟨y1091, hy1091⟩ : ∃ y_ : List (S140), y_ = (x3_1.set (x4_1 : Int).toNat (⟨t1089, t1090⟩ : S140)) := ⟨_, rfl⟩
        replace H : (laws_toTempoS.l0 k1 l0 y1091 (wrap64 (x4_1 + 1))) = some r := by first | (rw [hy1091]; with_reducible exact H) | (have H2_ := (Option.bind_some _ _).symm.trans H; rw [hy1091]; with_reducible exact H2_) | (have H2_ := (Option.bind_some _ _).symm.trans H; with_reducible exact H2_) | with_reducible exact H | (rw [hy1091]; exact H) | exact H
        have Ny1091 := sk_' hy1091
        clear hy1091
        have H' := sk_' H
        clear H
        have p1088 : 0 ≤ (x4_1 : Int) := od_' (by first | (with_reducible assumption) | assumption)
        have q1088 : x4_1 < (l0.length : Int) := od_' (by first | (with_reducible assumption) | assumption)
        obtain ⟨ad1088, e1088, hx1088_0, hx1088_1⟩ := at_T142 HR0.out x4_1 p1088 q1088
        cases e1088
        replace hx1088_0 := (HB.out.cell (bq_' w _ hx1088_0)).trans hx1088_0
        replace hx1088_1 := (HB.out.cell (bq_' w _ hx1088_1)).trans hx1088_1
        replace p1088 := eq_true p1088
        replace q1088 := eq_true q1088
        go_wp2_with (first | ((with_reducible refine xj_' (f := 114) rfl ?_); refine goesL_ (some 20) rfl rfl Try.func114 (by kernel_rfl) rfl #[.agg #[.int .i64 ((rd_T142 l0 x4_1).f0), .int .i64 ((rd_T142 l0 x4_1).f1)]] rfl (by (try simp only [xm_', xc_', xn_']); first | done | rfl | (simp only [xd_', xt_']; rfl)) ?_; (with_reducible refine (laws_toTempo.calls ((rd_T142 l0 x4_1).f0) ((rd_T142 l0 x4_1).f1) t1089 t1090 _ A8.out).mono ?_); rintro e w11 ⟨rfl, hb⟩; refine ⟨_, rfl, ?_⟩; have n0_ := sk_' (xb_' (by (with_reducible repeat (first | apply ra_' | apply rn_' | apply rd1_')); exact HO_3.out) hb); have n1_ := sk_' (pp_' (by repeat (first | (with_reducible first | exact HB.out | apply pa_' | apply pn_' | apply pd_') | exact HB.out)) hb); clear HO_3; clear HB; have HO_3 := n0_; have HB := n1_; clear n0_ n1_; (try clear hb); (try clear hb2); (try clear hk); (try clear hi); have p10 : 0 ≤ (x4_1 : Int) := od_' (by first | (with_reducible assumption) | assumption); have q10 : (x4_1 : Int) < ((x3_1.length : Int) : Int) := od_' (by first | (with_reducible assumption) | assumption); obtain ⟨go10, co10, eo10, gb10, gl10, cl10, HG10⟩ := Kd.R_form HO_3.out (by omega); (first | cases eo10 | (injection eo10 with ea_ en_ ec_; (first | subst ea_ | (injection ea_ with ea_; subst ea_)); subst ec_; clear en_)); have GB10 := sk_' gb10; have GG10 := sk_' HG10; clear gb10 gl10 HG10; obtain ⟨ce10, hcl10, hM10, hcc10, hfr10⟩ := Kd.R_elem HO_3.out z140 (x4_1 : Int) p10 q10; obtain rfl := k140_openM hM10; have hx10_0 : w11.cell? ⟨go10, (x4_1 : Int).toNat * 2, none⟩ = some (.int .i64 ((rd_T140 x3_1 x4_1).f0)) := hcc10 0 _ rfl; have hx10_1 : w11.cell? ⟨go10, (x4_1 : Int).toNat * 2 + 1, none⟩ = some (.int .i64 ((rd_T140 x3_1 x4_1).f1)) := hcc10 1 _ rfl; have hf10_0 : w11.frozen? ⟨go10, (x4_1 : Int).toNat * 2, none⟩ = false := hfr10 0; have hf10_1 : w11.frozen? ⟨go10, (x4_1 : Int).toNat * 2 + 1, none⟩ = false := hfr10 1; clear hcl10 hcc10 hfr10 hM10; replace p10 := eq_true p10; replace q10 := eq_true q10; have HX12 := sk_' (show Kd.R k140 140 w11 w.heap.size (fun _ => True) (.slice (some ⟨go10, 0, none⟩) x3_1.length co10) x3_1 from (by (with_reducible repeat (first | apply ra_' | apply rn_' | apply rd1_')); exact HO_3.out)); obtain ⟨ce12, hcl12, hM12, hcc12, hfr12⟩ := Kd.R_elem HX12.out z140 (x4_1 : Int) (od_' (by first | (with_reducible assumption) | assumption)) (by have h_ : (x4_1 : Int) < ((x3_1.length : Int) : Int) := od_' (by first | (with_reducible assumption) | assumption); first | exact h_ | (have e_ := (xr_' HO_3.out).1; omega) | simpa using h_); obtain rfl := k140_openM hM12; have HP12 := Kd.R_seg HX12.out (x4_1 : Int) (od_' (by first | (with_reducible assumption) | assumption)) (by have h_ : (x4_1 : Int) < ((x3_1.length : Int) : Int) := od_' (by first | (with_reducible assumption) | assumption); first | exact h_ | (have e_ := (xr_' HO_3.out).1; omega) | simpa using h_) (seg := [.int .i64 t1089, .int .i64 t1090]) (j := 0) hcl12 hcc12 (show 2 ≤ 2 from by decide) (x' := (⟨t1089, t1090⟩ : S140)) (k140_mkM _ _ _ (⟨t1089, t1090⟩ : S140) ) (fun _ hk => hk); have hx12_0 := hcc12 0 _ rfl; (try simp only [show (k140).sz = 2 from rfl, Nat.mul_one, Nat.add_zero] at hx12_0); have hf12_0 := hfr12 0; (try simp only [show (k140).sz = 2 from rfl, Nat.mul_one, Nat.add_zero] at hf12_0); have hx12_1 := hcc12 1 _ rfl; (try simp only [show (k140).sz = 2 from rfl, Nat.mul_one, Nat.add_zero] at hx12_1); have hf12_1 := hfr12 1; (try simp only [show (k140).sz = 2 from rfl, Nat.mul_one, Nat.add_zero] at hf12_1); clear hcl12 hcc12 hfr12 hM12) | ((with_reducible refine gate_store (t := 140) (p := 21) rfl ?_); refine store_event (t := 140) (p := 21) (v := ?vo_w13) (w1 := ((w11.setCell ⟨go10, (x4_1 : Int).toNat * 2, none⟩ (.int .i64 t1089)).setCell ⟨go10, (x4_1 : Int).toNat * 2 + 1, none⟩ (.int .i64 t1090))) ?hg ?ho ?hn ?hr ?_; (case ho => rfl); (case hg => rfl); (case hn => rfl); (case hr => first | (go_simp; done) | (go_simp; rfl)); intro w13 hw; have hg : w11.grownBy w13 (some go10) := (by rw [hw]; exact HP12.2); have hp_ : Kd.R k140 140 w13 w.heap.size (fun _ => True) (.slice (some ⟨go10, 0, none⟩) x3_1.length co10) y1091 := (by rw [hw, Ny1091.out]; exact HP12.1); clear HP12; have n0_ := sk_' (hp_); have n1_ := sk_' ((by rw [hw]; exact pt_' (pt_' (HB.out) GB10.out) GB10.out : Below w.heap.size w w13)); clear HO_3; clear HB; have HO_3 := n0_; have HB := n1_; clear n0_ n1_; clear hg hw hp_))
        go_roundg k1
        case measure => have := HK1.out; omega
        case rel => exact ⟨(y1091), (wrap64 (x4_1 + 1)), (by first | rfl | (simp; done) | (simp [*]; done)), H', ⟨by have := HK1.out; omega⟩, ⟨by (with_reducible repeat (first | apply ra_' | apply rn_' | apply rd1_')); exact HO_3.out⟩, ⟨by repeat (first | (with_reducible first | exact HB.out | apply pa_' | apply pn_' | apply pd_') | exact HB.out)⟩⟩
       rw [if_neg c9] at H
       exact absurd H (by simp)
      rw [if_neg c7] at H
      exact absurd H (by simp)
     rw [if_neg c6] at H
     have c6b0 : decide (x4_1 < (l0.length : Int)) = false := decide_eq_false c6
     clear c6
     obtain rfl := Option.some.inj H
     go_wp2
     go_ret
     exact ⟨_, rfl, rm HO_3, bm HB⟩
  rw [if_neg c3] at H
  exact absurd H (by simp)
 rw [if_neg c2] at H
 exact absurd H (by simp)
end Go.Proofs.Ytiophiipmgpaeaa.F

namespace Go.Proofs
open Go.Shelf
def Try.laysSf_ren : Go.Shelf.Ren := ⟨fun | 6 => 155 | 15 => 144 | 14 => 180 | 28 => 174 | 29 => 175 | 20 => 187 | 21 => 188 | 22 => 189 | 23 => 190 | 24 => 191 | 25 => 192 | 26 => 193 | 27 => 194 | 46 => 196 | 47 => 183 | 48 => 184 | 49 => 197 | 50 => 198 | 57 => 199 | n => n, fun | 22 => 37 | 24 => 109 | 25 => 174 | 3 => 3 | 39 => 167 | 0 => 0 | 53 => 187 | 55 => 189 | 4 => 4 | 46 => 181 | 45 => 180 | 50 => 91 | 5 => 5 | 9 => 9 | 66 => 191 | 70 => 195 | 76 => 202 | 77 => 97 | n => n, fun | n => n⟩
theorem Try.laysSf : Go.Proofs.SlLaysF0.n6 Try.prog Try.laysSf_ren := {
  mixed := by kernel_rfl
  f6 := ⟨Try.f155.name, by decide, Try.func155.trans (congrArg some (by kernel_rfl))⟩
  f14 := ⟨Try.f180.name, by decide, Try.func180.trans (congrArg some (by kernel_rfl))⟩
  f15 := Try.func144.trans (congrArg some (by kernel_rfl))
  f20 := ⟨Try.f187.name, by decide, Try.func187.trans (congrArg some (by kernel_rfl))⟩
  f21 := ⟨Try.f188.name, by decide, Try.func188.trans (congrArg some (by kernel_rfl))⟩
  f22 := ⟨Try.f189.name, by decide, Try.func189.trans (congrArg some (by kernel_rfl))⟩
  f23 := ⟨Try.f190.name, by decide, Try.func190.trans (congrArg some (by kernel_rfl))⟩
  f24 := ⟨Try.f191.name, by decide, Try.func191.trans (congrArg some (by kernel_rfl))⟩
  f25 := ⟨Try.f192.name, by decide, Try.func192.trans (congrArg some (by kernel_rfl))⟩
  f26 := ⟨Try.f193.name, by decide, Try.func193.trans (congrArg some (by kernel_rfl))⟩
  f27 := ⟨Try.f194.name, by decide, Try.func194.trans (congrArg some (by kernel_rfl))⟩
  f28 := Try.func174.trans (congrArg some (by kernel_rfl))
  f29 := Try.func175.trans (congrArg some (by kernel_rfl))
  f46 := ⟨Try.f196.name, by decide, Try.func196.trans (congrArg some (by kernel_rfl))⟩
  f47 := Try.func183.trans (congrArg some (by kernel_rfl))
  f48 := Try.func184.trans (congrArg some (by kernel_rfl))
  f49 := ⟨Try.f197.name, by decide, Try.func197.trans (congrArg some (by kernel_rfl))⟩
  f50 := ⟨Try.f198.name, by decide, Try.func198.trans (congrArg some (by kernel_rfl))⟩
  f57 := ⟨Try.f199.name, by decide, Try.func199.trans (congrArg some (by kernel_rfl))⟩
  t0 := Try.underlying0
  a0 := Try.isAgg0
  z0 := Try.sizeOf0
  v0 := Try.zeroValue0
  t3 := Try.underlying3
  a3 := Try.isAgg3
  z3 := Try.sizeOf3
  v3 := Try.zeroValue3
  t4 := Try.underlying4
  a4 := Try.isAgg4
  z4 := Try.sizeOf4
  v4 := Try.zeroValue4
  t5 := Try.underlying5
  a5 := Try.isAgg5
  z5 := Try.sizeOf5
  v5 := Try.zeroValue5
  t9 := Try.underlying9
  a9 := Try.isAgg9
  z9 := Try.sizeOf9
  v9 := Try.zeroValue9
  t22 := Try.underlying37
  a22 := Try.isAgg37
  z22 := Try.sizeOf37
  v22 := Try.zeroValue37
  t25 := Try.underlying174
  a25 := Try.isAgg174
  z25 := Try.sizeOf174
  v25 := Try.zeroValue174
  t39 := Try.underlying167
  a39 := Try.isAgg167
  z39 := Try.sizeOf167
  v39 := Try.zeroValue167
  t45 := Try.underlying180
  a45 := Try.isAgg180
  z45 := Try.sizeOf180
  v45 := Try.zeroValue180
  t46 := Try.underlying181
  a46 := Try.isAgg181
  z46 := Try.sizeOf181
  v46 := Try.zeroValue181
  t50 := Try.underlying91
  a50 := Try.isAgg91
  z50 := Try.sizeOf91
  v50 := Try.zeroValue91
  t53 := Try.underlying187
  a53 := Try.isAgg187
  z53 := Try.sizeOf187
  v53 := Try.zeroValue187
  t55 := Try.underlying189
  a55 := Try.isAgg189
  z55 := Try.sizeOf189
  v55 := Try.zeroValue189
  t66 := Try.underlying191
  a66 := Try.isAgg191
  z66 := Try.sizeOf191
  v66 := Try.zeroValue191
  t70 := Try.underlying195
  a70 := Try.isAgg195
  z70 := Try.sizeOf195
  v70 := Try.zeroValue195
  t76 := Try.underlying202
  a76 := Try.isAgg202
  z76 := Try.sizeOf202
  v76 := Try.zeroValue202
  t77 := Try.underlying97
  a77 := Try.isAgg97
  z77 := Try.sizeOf97
  v77 := Try.zeroValue97 }
end Go.Proofs

namespace Go.Proofs.Ytiophiipmgpaeaa.F
open Go.RowKit Go.Proofs.YtiophiipmgpaeaaW.PrintWords Go.Proofs.YtiophiipmgpaeaaW.PrintLast Go.Proofs.YtiophiipmgpaeaaW.PrintMore
attribute [local go_sem] max2_int min2_int max_two min_two max_three min_three max_four min_four
set_option linter.unusedVariables false
set_option linter.unusedSimpArgs false
def cmp_isNaN_int.f (a0 : Int) : Option (Bool) := some (a0 != a0)
set_option maxHeartbeats 8000000 in
set_option maxRecDepth 100000 in
theorem cmp_isNaN_int.calls (a0 : Int) (r : Bool) (w : World) (h : cmp_isNaN_int.f a0 = some r) :
  Calls Try.prog 181 #[.int .i64 a0] w fun e w' => e = .returned (.bool r) ∧ Drawn0 w w' := by
 have H : (some (a0 != a0)) = some r := h
 clear h
 obtain rfl := Option.some.inj H
 go_enter Try.func181, Try.ntmps181
 go_wp2
 go_ret
 exact ⟨by first | rfl | (simp; done) | (simp [*]; done), by repeat (first | exact Drawn0.refl _ | apply Drawn0.step)⟩
end Go.Proofs.Ytiophiipmgpaeaa.F

namespace Go.Proofs.Ytiophiipmgpaeaa.F
open Go.RowKit Go.Proofs.YtiophiipmgpaeaaW.PrintWords Go.Proofs.YtiophiipmgpaeaaW.PrintLast Go.Proofs.YtiophiipmgpaeaaW.PrintMore
attribute [local go_sem] max2_int min2_int max_two min_two max_three min_three max_four min_four
set_option linter.unusedVariables false
set_option linter.unusedSimpArgs false
def cmp_Compare_int.f (a0 : Int) (a1 : Int) : Option (Int) := (cmp_isNaN_int.f a0).bind fun t556 => ((cmp_isNaN_int.f a1).bind fun t557 => (if t556 = true then (if t557 = true then (some 0) else (some (-1))) else (if t557 = true then (some 1) else (if a0 < a1 then (some (-1)) else (if a0 > a1 then (some 1) else (some 0))))))
set_option maxHeartbeats 8000000 in
set_option maxRecDepth 100000 in
theorem cmp_Compare_int.calls (a0 : Int) (a1 : Int) (r : Int) (w : World) (h : cmp_Compare_int.f a0 a1 = some r) :
  Calls Try.prog 158 #[.int .i64 a0, .int .i64 a1] w fun e w' => e = .returned (.int .i64 r) ∧ Drawn0 w w' := by
 have H : ((cmp_isNaN_int.f a0).bind fun t556 => ((cmp_isNaN_int.f a1).bind fun t557 => (if t556 = true then (if t557 = true then (some 0) else (some (-1))) else (if t557 = true then (some 1) else (if a0 < a1 then (some (-1)) else (if a0 > a1 then (some 1) else (some 0))))))) = some r := h
 clear h
 replace H := bs_' H
 obtain ⟨t556, A30, H⟩ := H
 try dsimp only at H
 have A3 := sk_' A30
 clear A30
 replace H := bs_' H
 obtain ⟨t557, A40, H⟩ := H
 try dsimp only at H
 have A4 := sk_' A40
 clear A40
 by_cases c5 : t556 = true
 ·
  subst c5
  rw [if_pos rfl] at H
  by_cases c6 : t557 = true
  ·
   subst c6
   rw [if_pos rfl] at H
   obtain rfl := Option.some.inj H
   go_enter Try.func158, Try.ntmps158
   go_wp2_with (first | ((with_reducible refine xj_' (f := 181) rfl ?_); refine goesL_ (some 8) rfl rfl Try.func181 (by kernel_rfl) rfl #[.int .i64 a0] rfl (by (try simp only [xm_', xc_', xn_']); first | done | rfl | (simp only [xd_', xt_']; rfl)) ?_; (with_reducible refine (cmp_isNaN_int.calls a0 true _ A3.out).mono ?_); rintro e w' ⟨rfl, ⟨nd, rfl⟩⟩; refine ⟨_, rfl, ?_⟩) | ((with_reducible refine xj_' (f := 181) rfl ?_); refine goesL_ (some 10) rfl rfl Try.func181 (by kernel_rfl) rfl #[.int .i64 a1] rfl (by (try simp only [xm_', xc_', xn_']); first | done | rfl | (simp only [xd_', xt_']; rfl)) ?_; (with_reducible refine (cmp_isNaN_int.calls a1 true _ A4.out).mono ?_); rintro e w' ⟨rfl, ⟨nd, rfl⟩⟩; refine ⟨_, rfl, ?_⟩))
   go_ret
   exact ⟨by first | rfl | (simp; done) | (simp [*]; done), by repeat (first | exact Drawn0.refl _ | apply Drawn0.step)⟩
  replace c6 := Bool.eq_false_iff.mpr c6
  subst c6
  rw [if_neg (show ¬ (false = true) by decide)] at H
  obtain rfl := Option.some.inj H
  go_enter Try.func158, Try.ntmps158
  go_wp2_with (first | ((with_reducible refine xj_' (f := 181) rfl ?_); refine goesL_ (some 8) rfl rfl Try.func181 (by kernel_rfl) rfl #[.int .i64 a0] rfl (by (try simp only [xm_', xc_', xn_']); first | done | rfl | (simp only [xd_', xt_']; rfl)) ?_; (with_reducible refine (cmp_isNaN_int.calls a0 true _ A3.out).mono ?_); rintro e w' ⟨rfl, ⟨nd, rfl⟩⟩; refine ⟨_, rfl, ?_⟩) | ((with_reducible refine xj_' (f := 181) rfl ?_); refine goesL_ (some 10) rfl rfl Try.func181 (by kernel_rfl) rfl #[.int .i64 a1] rfl (by (try simp only [xm_', xc_', xn_']); first | done | rfl | (simp only [xd_', xt_']; rfl)) ?_; (with_reducible refine (cmp_isNaN_int.calls a1 false _ A4.out).mono ?_); rintro e w' ⟨rfl, ⟨nd, rfl⟩⟩; refine ⟨_, rfl, ?_⟩))
  go_ret
  exact ⟨by first | rfl | (simp; done) | (simp [*]; done), by repeat (first | exact Drawn0.refl _ | apply Drawn0.step)⟩
 replace c5 := Bool.eq_false_iff.mpr c5
 subst c5
 rw [if_neg (show ¬ (false = true) by decide)] at H
 by_cases c7 : t557 = true
 ·
  subst c7
  rw [if_pos rfl] at H
  obtain rfl := Option.some.inj H
  go_enter Try.func158, Try.ntmps158
  go_wp2_with (first | ((with_reducible refine xj_' (f := 181) rfl ?_); refine goesL_ (some 8) rfl rfl Try.func181 (by kernel_rfl) rfl #[.int .i64 a0] rfl (by (try simp only [xm_', xc_', xn_']); first | done | rfl | (simp only [xd_', xt_']; rfl)) ?_; (with_reducible refine (cmp_isNaN_int.calls a0 false _ A3.out).mono ?_); rintro e w' ⟨rfl, ⟨nd, rfl⟩⟩; refine ⟨_, rfl, ?_⟩) | ((with_reducible refine xj_' (f := 181) rfl ?_); refine goesL_ (some 10) rfl rfl Try.func181 (by kernel_rfl) rfl #[.int .i64 a1] rfl (by (try simp only [xm_', xc_', xn_']); first | done | rfl | (simp only [xd_', xt_']; rfl)) ?_; (with_reducible refine (cmp_isNaN_int.calls a1 true _ A4.out).mono ?_); rintro e w' ⟨rfl, ⟨nd, rfl⟩⟩; refine ⟨_, rfl, ?_⟩))
  go_ret
  exact ⟨by first | rfl | (simp; done) | (simp [*]; done), by repeat (first | exact Drawn0.refl _ | apply Drawn0.step)⟩
 replace c7 := Bool.eq_false_iff.mpr c7
 subst c7
 rw [if_neg (show ¬ (false = true) by decide)] at H
 by_cases c8 : a0 < a1
 ·
  rw [if_pos c8] at H
  have c8b0 : decide (a0 < a1) = true := decide_eq_true c8
  clear c8
  obtain rfl := Option.some.inj H
  go_enter Try.func158, Try.ntmps158
  go_wp2_with (first | ((with_reducible refine xj_' (f := 181) rfl ?_); refine goesL_ (some 8) rfl rfl Try.func181 (by kernel_rfl) rfl #[.int .i64 a0] rfl (by (try simp only [xm_', xc_', xn_']); first | done | rfl | (simp only [xd_', xt_']; rfl)) ?_; (with_reducible refine (cmp_isNaN_int.calls a0 false _ A3.out).mono ?_); rintro e w' ⟨rfl, ⟨nd, rfl⟩⟩; refine ⟨_, rfl, ?_⟩) | ((with_reducible refine xj_' (f := 181) rfl ?_); refine goesL_ (some 10) rfl rfl Try.func181 (by kernel_rfl) rfl #[.int .i64 a1] rfl (by (try simp only [xm_', xc_', xn_']); first | done | rfl | (simp only [xd_', xt_']; rfl)) ?_; (with_reducible refine (cmp_isNaN_int.calls a1 false _ A4.out).mono ?_); rintro e w' ⟨rfl, ⟨nd, rfl⟩⟩; refine ⟨_, rfl, ?_⟩))
  go_ret
  exact ⟨by first | rfl | (simp; done) | (simp [*]; done), by repeat (first | exact Drawn0.refl _ | apply Drawn0.step)⟩
 rw [if_neg c8] at H
 have c8b0 : decide (a0 < a1) = false := decide_eq_false c8
 clear c8
 by_cases c9 : a0 > a1
 ·
  rw [if_pos c9] at H
  have c9b0 : decide (a1 < a0) = true := decide_eq_true c9
  clear c9
  obtain rfl := Option.some.inj H
  go_enter Try.func158, Try.ntmps158
  go_wp2_with (first | ((with_reducible refine xj_' (f := 181) rfl ?_); refine goesL_ (some 8) rfl rfl Try.func181 (by kernel_rfl) rfl #[.int .i64 a0] rfl (by (try simp only [xm_', xc_', xn_']); first | done | rfl | (simp only [xd_', xt_']; rfl)) ?_; (with_reducible refine (cmp_isNaN_int.calls a0 false _ A3.out).mono ?_); rintro e w' ⟨rfl, ⟨nd, rfl⟩⟩; refine ⟨_, rfl, ?_⟩) | ((with_reducible refine xj_' (f := 181) rfl ?_); refine goesL_ (some 10) rfl rfl Try.func181 (by kernel_rfl) rfl #[.int .i64 a1] rfl (by (try simp only [xm_', xc_', xn_']); first | done | rfl | (simp only [xd_', xt_']; rfl)) ?_; (with_reducible refine (cmp_isNaN_int.calls a1 false _ A4.out).mono ?_); rintro e w' ⟨rfl, ⟨nd, rfl⟩⟩; refine ⟨_, rfl, ?_⟩))
  go_ret
  exact ⟨by first | rfl | (simp; done) | (simp [*]; done), by repeat (first | exact Drawn0.refl _ | apply Drawn0.step)⟩
 rw [if_neg c9] at H
 have c9b0 : decide (a1 < a0) = false := decide_eq_false c9
 clear c9
 obtain rfl := Option.some.inj H
 go_enter Try.func158, Try.ntmps158
 go_wp2_with (first | ((with_reducible refine xj_' (f := 181) rfl ?_); refine goesL_ (some 8) rfl rfl Try.func181 (by kernel_rfl) rfl #[.int .i64 a0] rfl (by (try simp only [xm_', xc_', xn_']); first | done | rfl | (simp only [xd_', xt_']; rfl)) ?_; (with_reducible refine (cmp_isNaN_int.calls a0 false _ A3.out).mono ?_); rintro e w' ⟨rfl, ⟨nd, rfl⟩⟩; refine ⟨_, rfl, ?_⟩) | ((with_reducible refine xj_' (f := 181) rfl ?_); refine goesL_ (some 10) rfl rfl Try.func181 (by kernel_rfl) rfl #[.int .i64 a1] rfl (by (try simp only [xm_', xc_', xn_']); first | done | rfl | (simp only [xd_', xt_']; rfl)) ?_; (with_reducible refine (cmp_isNaN_int.calls a1 false _ A4.out).mono ?_); rintro e w' ⟨rfl, ⟨nd, rfl⟩⟩; refine ⟨_, rfl, ?_⟩))
 go_ret
 exact ⟨by first | rfl | (simp; done) | (simp [*]; done), by repeat (first | exact Drawn0.refl _ | apply Drawn0.step)⟩
end Go.Proofs.Ytiophiipmgpaeaa.F

namespace Go.Proofs.Ytiophiipmgpaeaa.F
open Go.RowKit Go.Proofs.YtiophiipmgpaeaaW.PrintWords Go.Proofs.YtiophiipmgpaeaaW.PrintLast Go.Proofs.YtiophiipmgpaeaaW.PrintMore
attribute [local go_sem] max2_int min2_int max_two min_two max_three min_three max_four min_four
set_option linter.unusedVariables false
set_option linter.unusedSimpArgs false
def cmp_Or_int.l0 : Nat → Int → List Int → Int → Int → Option (Int)
 | 0, _, _, _, _ => none
 | k + 1, x3, x6, x7, x8 => if x8 < x7 then (if 0 ≤ x8 then (if x8 < (x6.length : Int) then (if (rd x6 x8) = x3 then (cmp_Or_int.l0 k x3 x6 x7 (wrap64 (x8 + 1))) else (some (rd x6 x8))) else (none)) else (none)) else (some x3)
def cmp_Or_int.f (k : Nat) (l0 : List Int) : Option (Int) := cmp_Or_int.l0 k 0 l0 (l0.length : Int) 0
set_option maxHeartbeats 8000000 in
set_option maxRecDepth 100000 in
theorem cmp_Or_int.calls (k : Nat) (A0 : Option Addr) (c0 : Nat) (l0 : List Int) (r : Int) (w : World) (hr0 : Kd.C (Kd.int .i64) w A0 l0.length l0) (hc0 : l0.length ≤ c0) (h : cmp_Or_int.f k l0 = some r) :
  Calls Try.prog 157 #[.slice A0 l0.length c0] w fun e w' => e = .returned (.int .i64 r) ∧ Drawn0 w w' := by
 have HR0 := sk_' hr0
 have HC0 := sk_' hc0
 clear hr0 hc0
 have H : (cmp_Or_int.l0 k 0 l0 (l0.length : Int) 0) = some r := h
 clear h
 have H' := sk_' H
 clear H
 go_enter Try.func157, Try.ntmps157
 go_wp2
 go_loopg [8] k (fun kq v8 w' => ∃ (x8_1 : Int), v8 = .int .i64 x8_1 ∧ Aside0 (cmp_Or_int.l0 kq 0 l0 (l0.length : Int) x8_1 = some r) ∧ Aside0 (kq ≤ k) ∧ Drawn0 w w')
 case atStart => exact ⟨(0), rfl, H', ⟨Nat.le_refl _⟩, by repeat (first | exact Drawn0.refl _ | apply Drawn0.step)⟩
 case round =>
  clear H'
  try clear c1
  obtain ⟨x8_1, rfl, HA, HK1, ⟨m1, rfl⟩⟩ := hrel
  cases gk with
  | zero => exact absurd HA.out (by simp [cmp_Or_int.l0])
  | succ k1 =>
   have H := HA.out
   clear HA
   simp only [cmp_Or_int.l0] at H
   by_cases c2 : x8_1 < (l0.length : Int)
   ·
    rw [if_pos c2] at H
    have c2b0 : decide (x8_1 < (l0.length : Int)) = true := decide_eq_true c2
    clear c2
    by_cases c3 : 0 ≤ x8_1
    ·
     rw [if_pos c3] at H
     have c3b0 : decide (0 ≤ x8_1) = true := decide_eq_true c3
     clear c3
     by_cases c4 : x8_1 < (l0.length : Int)
     ·
      rw [if_pos c4] at H
      have c4b0 : decide (x8_1 < (l0.length : Int)) = true := decide_eq_true c4
      clear c4
      by_cases c5 : (rd l0 x8_1) = 0
      ·
       rw [if_pos c5] at H
       have c5b0 : ((rd l0 x8_1) == 0) = true := beq_iff_eq.mpr c5
       have c5b1 : ((rd l0 x8_1) != 0) = false := bne_eq_false_iff_eq.mpr c5
       clear c5
       have H' := sk_' H
       clear H
       have p555 : 0 ≤ (x8_1 : Int) := od_' (by first | (with_reducible assumption) | assumption)
       have q555 : x8_1 < (l0.length : Int) := od_' (by first | (with_reducible assumption) | assumption)
       obtain ⟨ad555, e555, hx555_0⟩ := Kd.at_int HR0.out x8_1 p555 q555
       cases e555
       replace p555 := eq_true p555
       replace q555 := eq_true q555
       go_wp2
       go_roundg k1
       case measure => have := HK1.out; omega
       case rel => exact ⟨(wrap64 (x8_1 + 1)), rfl, H', ⟨by have := HK1.out; omega⟩, by repeat (first | exact Drawn0.refl _ | apply Drawn0.step)⟩
      rw [if_neg c5] at H
      have c5b0 : ((rd l0 x8_1) == 0) = false := beq_eq_false_iff_ne.mpr c5
      have c5b1 : ((rd l0 x8_1) != 0) = true := bne_iff_ne.mpr c5
      obtain rfl := Option.some.inj H
      have p555 : 0 ≤ (x8_1 : Int) := od_' (by first | (with_reducible assumption) | assumption)
      have q555 : x8_1 < (l0.length : Int) := od_' (by first | (with_reducible assumption) | assumption)
      obtain ⟨ad555, e555, hx555_0⟩ := Kd.at_int HR0.out x8_1 p555 q555
      cases e555
      replace p555 := eq_true p555
      replace q555 := eq_true q555
      go_wp2
      go_ret
      exact ⟨by first | rfl | (simp; done) | (simp [*]; done), by repeat (first | exact Drawn0.refl _ | apply Drawn0.step)⟩
     rw [if_neg c4] at H
     exact absurd H (by simp)
    rw [if_neg c3] at H
    exact absurd H (by simp)
   rw [if_neg c2] at H
   have c2b0 : decide (x8_1 < (l0.length : Int)) = false := decide_eq_false c2
   clear c2
   obtain rfl := Option.some.inj H
   go_wp2
   go_ret
   exact ⟨by first | rfl | (simp; done) | (simp [*]; done), by repeat (first | exact Drawn0.refl _ | apply Drawn0.step)⟩
end Go.Proofs.Ytiophiipmgpaeaa.F

namespace Go.Proofs.Ytiophiipmgpaeaa.F
open Go.RowKit Go.Proofs.YtiophiipmgpaeaaW.PrintWords Go.Proofs.YtiophiipmgpaeaaW.PrintLast Go.Proofs.YtiophiipmgpaeaaW.PrintMore
attribute [local go_sem] max2_int min2_int max_two min_two max_three min_three max_four min_four
set_option linter.unusedVariables false
set_option linter.unusedSimpArgs false
def impl_InRange.f (a0 : Int) (a1 : Int) (a2 : Int) : Option (Bool) := if a1 ≤ a0 then (some (decide (a0 ≤ a2))) else (some false)
set_option maxHeartbeats 8000000 in
set_option maxRecDepth 100000 in
theorem impl_InRange.calls (a0 : Int) (a1 : Int) (a2 : Int) (r : Bool) (w : World) (h : impl_InRange.f a0 a1 a2 = some r) :
  Calls Try.prog 82 #[.int .i64 a0, .int .i64 a1, .int .i64 a2] w fun e w' => e = .returned (.bool r) ∧ Drawn0 w w' := by
 have H : (if a1 ≤ a0 then (some (decide (a0 ≤ a2))) else (some false)) = some r := h
 clear h
 by_cases c4 : a1 ≤ a0
 ·
  rw [if_pos c4] at H
  have c4b0 : decide (a1 ≤ a0) = true := decide_eq_true c4
  clear c4
  obtain rfl := Option.some.inj H
  go_enter Try.func82, Try.ntmps82
  go_wp2
  go_ret
  exact ⟨by first | rfl | (simp; done) | (simp [*]; done), by repeat (first | exact Drawn0.refl _ | apply Drawn0.step)⟩
 rw [if_neg c4] at H
 have c4b0 : decide (a1 ≤ a0) = false := decide_eq_false c4
 clear c4
 obtain rfl := Option.some.inj H
 go_enter Try.func82, Try.ntmps82
 go_wp2
 go_ret
 exact ⟨by first | rfl | (simp; done) | (simp [*]; done), by repeat (first | exact Drawn0.refl _ | apply Drawn0.step)⟩
end Go.Proofs.Ytiophiipmgpaeaa.F

namespace Go.Proofs.Ytiophiipmgpaeaa.F
open Go.RowKit Go.Proofs.YtiophiipmgpaeaaW.PrintWords Go.Proofs.YtiophiipmgpaeaaW.PrintLast Go.Proofs.YtiophiipmgpaeaaW.PrintMore
attribute [local go_sem] max2_int min2_int max_two min_two max_three min_three max_four min_four
set_option linter.unusedVariables false
set_option linter.unusedSimpArgs false
def impl_eventOrder.f (k : Nat) (a0_0 : Int) (a0_1 : Int) (a0_2 : Int) (a0_3 : Int) (a1_0 : Int) (a1_1 : Int) (a1_2 : Int) (a1_3 : Int) : Option (Int) := (cmp_Compare_int.f a0_0 a1_0).bind fun t560 => ((cmp_Compare_int.f a0_3 a1_3).bind fun t561 => ((cmp_Compare_int.f a0_2 a1_2).bind fun t562 => ((cmp_Or_int.f k (([t560, t561, t562] : List Int))).bind fun t566 => (some t566))))
def impl_eventOrder.T1 : Bool × List (List Nat × List Nat) := (true, [([], []), ([0], [0]), ([], []), ([2], [2]), ([1, 3], [1, 3]), ([], []), ([5], [5]), ([], []), ([7], [7]), ([6, 8, 4], [6, 8]), ([], []), ([10], [10]), ([], []), ([12], [12]), ([11, 13, 9], [11, 13]), ([4, 9, 14], [4, 9, 14]), ([15, 14], [15]), ([16, 16, 0, 1, 2, 3, 4, 5, 6, 7, 8, 9, 10, 11, 12, 13, 14, 15, 16], [16])])
def impl_eventOrder.B1 : List Nat := [0, 1, 0, 4, 15, 0, 32, 0, 128, 511, 0, 1024, 0, 4096, 16383, 32767, 65535, 131071]
theorem impl_eventOrder.tab1 : rtab .any (opsOf Try.f134 1) = impl_eventOrder.T1 := by kernel_rfl
theorem impl_eventOrder.bits1 : waitsOk impl_eventOrder.T1.2 impl_eventOrder.B1 = true := by kernel_rfl
set_option maxHeartbeats 8000000 in
set_option maxRecDepth 100000 in
theorem impl_eventOrder.calls (k : Nat) (a0_0 : Int) (a0_1 : Int) (a0_2 : Int) (a0_3 : Int) (a1_0 : Int) (a1_1 : Int) (a1_2 : Int) (a1_3 : Int) (r : Int) (w : World) (h : impl_eventOrder.f k a0_0 a0_1 a0_2 a0_3 a1_0 a1_1 a1_2 a1_3 = some r) :
  Calls Try.prog 134 #[.agg #[.int .i64 a0_0, .int .i64 a0_1, .int .i64 a0_2, .int .i64 a0_3], .agg #[.int .i64 a1_0, .int .i64 a1_1, .int .i64 a1_2, .int .i64 a1_3]] w fun e w' => e = .returned (.int .i64 r) ∧ Below w.heap.size w w' := by
 have hu118 := Try.underlying118
 have HB := sk_' (Below.refl w.heap.size w)
 have H : ((cmp_Compare_int.f a0_0 a1_0).bind fun t560 => ((cmp_Compare_int.f a0_3 a1_3).bind fun t561 => ((cmp_Compare_int.f a0_2 a1_2).bind fun t562 => ((cmp_Or_int.f k (([t560, t561, t562] : List Int))).bind fun t566 => (some t566))))) = some r := h
 clear h
 replace H := bs_' H
 obtain ⟨t560, A30, H⟩ := H
 try dsimp only at H
 have A3 := sk_' A30
 clear A30
 replace H := bs_' H
 obtain ⟨t561, A40, H⟩ := H
 try dsimp only at H
 have A4 := sk_' A40
 clear A40
 replace H := bs_' H
 obtain ⟨t562, A50, H⟩ := H
 try dsimp only at H
 have A5 := sk_' A50
 clear A50
 obtain ⟨y563, hy563⟩ : ∃ y_ : List Int, y_ = (([t560, t561, t562] : List Int)) := ⟨_, rfl⟩
 replace H : ((cmp_Or_int.f k y563).bind fun t566 => (some t566)) = some r := by first | (rw [hy563]; with_reducible exact H) | (have H2_ := (Option.bind_some _ _).symm.trans H; rw [hy563]; with_reducible exact H2_) | (have H2_ := (Option.bind_some _ _).symm.trans H; with_reducible exact H2_) | with_reducible exact H | (rw [hy563]; exact H) | exact H
 have Ny563 := sk_' hy563
 clear hy563
 replace H := bs_' H
 obtain ⟨t566, A60, H⟩ := H
 try dsimp only at H
 have A6 := sk_' A60
 clear A60
 obtain rfl := Option.some.inj H
 go_enter Try.func134, Try.ntmps134
 try go_wp2_with (first | ((with_reducible refine gate_dst (N := 2) rfl ?_); refine box_event ?hg (N := 2) ?hd (cs := #[.int .i64 a0_0, .int .i64 a0_1, .int .i64 a0_2, .int .i64 a0_3]) (t := 118) ?hr ?_; (case hd => rfl); (case hg => rfl); (case hr => first | (go_simp; done) | (go_simp; rfl)); intro gb558 hg w7 hbox hb; have n0_ := sk_' (pp_' (bm HB) hb); have n1_ := sk_' (hbox); have n2_ := sk_' ((by rw [hg]; exact (ps_' (bm HB)) : w.heap.size ≤ gb558)); have n3_ := sk_' ((by rw [hg]; exact (ps_' (bm HB)) : w.heap.size ≤ gb558)); clear HB; have HB := n0_; have BK558 := n1_; have GW558 := n2_; have GE558 := n3_; clear n0_ n1_ n2_ n3_; clear hb hbox hg) | ((with_reducible refine gate_dst (N := 3) rfl ?_); refine box_event ?hg (N := 3) ?hd (cs := #[.int .i64 a1_0, .int .i64 a1_1, .int .i64 a1_2, .int .i64 a1_3]) (t := 118) ?hr ?_; (case hd => rfl); (case hg => rfl); (case hr => first | (go_simp; done) | (go_simp; rfl)); intro gb559 hg w8 hbox hb; have n0_ := sk_' (blk_below (g := gb558) (o := .cells #[.int .i64 a0_0, .int .i64 a0_1, .int .i64 a0_2, .int .i64 a0_3] 118 (0, 0)) (km BK558) hb); have n1_ := sk_' (pp_' (bm HB) hb); have n2_ := sk_' (hbox); have n3_ := sk_' ((by rw [hg]; exact (ps_' (bm HB)) : w.heap.size ≤ gb559)); have n4_ := sk_' ((by rw [hg]; exact (ps_' (bm HB)) : w.heap.size ≤ gb559)); have n5_ := sk_' ((by rw [hg]; exact Nat.ne_of_lt (blk_lt (g := gb558) (o := .cells #[.int .i64 a0_0, .int .i64 a0_1, .int .i64 a0_2, .int .i64 a0_3] 118 (0, 0)) (km BK558)) : gb558 ≠ gb559)); have n6_ := sk_' ((by rw [hg]; exact Nat.ne_of_gt (blk_lt (g := gb558) (o := .cells #[.int .i64 a0_0, .int .i64 a0_1, .int .i64 a0_2, .int .i64 a0_3] 118 (0, 0)) (km BK558)) : gb559 ≠ gb558)); clear BK558; clear HB; have BK558 := n0_; have HB := n1_; have BK559 := n2_; have GW559 := n3_; have GE559 := n4_; have NB558_559 := n5_; have NB559_558 := n6_; clear n0_ n1_ n2_ n3_ n4_ n5_ n6_; clear hb hbox hg))
 have n0_ := sk_' (kd_' BK558.out)
 have n1_ := sk_' (kd_' BK559.out)
 have n2_ := sk_' (pd_' HB.out)
 clear BK558
 clear BK559
 clear HB
 have BK558 := n0_
 have BK559 := n1_
 have HB := n2_
 clear n0_ n1_ n2_
 refine start_ (n := 18) (S := fun w' => w'.cell? ⟨gb558, 0, none⟩ = some (.int .i64 a0_0) ∧ w'.cell? ⟨gb558, 1, none⟩ = some (.int .i64 a0_1) ∧ w'.cell? ⟨gb558, 2, none⟩ = some (.int .i64 a0_2) ∧ w'.cell? ⟨gb558, 3, none⟩ = some (.int .i64 a0_3) ∧ w'.cell? ⟨gb559, 0, none⟩ = some (.int .i64 a1_0) ∧ w'.cell? ⟨gb559, 1, none⟩ = some (.int .i64 a1_1) ∧ w'.cell? ⟨gb559, 2, none⟩ = some (.int .i64 a1_2) ∧ w'.cell? ⟨gb559, 3, none⟩ = some (.int .i64 a1_3)) (ds := []) #[false, false, false, false, false, false, false, false, false, false, false, false, false, false, false, false, false, false] (by kernel_rfl) rfl rfl ⟨(kc_' BK558.out 0).trans rfl, (kc_' BK558.out 1).trans rfl, (kc_' BK558.out 2).trans rfl, (kc_' BK558.out 3).trans rfl, (kc_' BK559.out 0).trans rfl, (kc_' BK559.out 1).trans rfl, (kc_' BK559.out 2).trans rfl, (kc_' BK559.out 3).trans rfl⟩ (fun hHeld => ?_); refine with_tabW impl_eventOrder.tab1 impl_eventOrder.bits1 (fun HT_ HW_ => ?_)
 generalize w8.drew = w9 at BK558 BK559 HB hHeld ⊢
 refine pure_ (i := 0) (N := some 5) (v := ?_) (a' := ?_) #[true, false, false, false, false, false, false, false, false, false, false, false, false, false, false, false, false, false] rfl rfl (any_of HT_.out (by kernel_rfl)) (fun _ _ _ h => h) (Or.inl ⟨by rfl, ?_⟩) ?_ ?_
 rotate_left
 ·
  intro w'
  go_simp
  with_reducible rfl
 rotate_left
 ·
  simp only [Act.put, sa_', sz_', sc_', i64_w, i32_w]
  rfl
 refine pure_ (i := 2) (N := some 7) (v := ?_) (a' := ?_) #[true, false, true, false, false, false, false, false, false, false, false, false, false, false, false, false, false, false] rfl rfl (any_of HT_.out (by kernel_rfl)) (fun _ _ _ h => h) (Or.inl ⟨by rfl, ?_⟩) ?_ ?_
 rotate_left
 ·
  intro w'
  go_simp
  with_reducible rfl
 rotate_left
 ·
  simp only [Act.put, sa_', sz_', sc_', i64_w, i32_w]
  rfl
 refine pure_ (i := 5) (N := some 10) (v := ?_) (a' := ?_) #[true, false, true, false, false, true, false, false, false, false, false, false, false, false, false, false, false, false] rfl rfl (any_of HT_.out (by kernel_rfl)) (fun _ _ _ h => h) (Or.inl ⟨by rfl, ?_⟩) ?_ ?_
 rotate_left
 ·
  intro w'
  go_simp
  with_reducible rfl
 rotate_left
 ·
  simp only [Act.put, sa_', sz_', sc_', i64_w, i32_w]
  rfl
 refine pure_ (i := 7) (N := some 12) (v := ?_) (a' := ?_) #[true, false, true, false, false, true, false, true, false, false, false, false, false, false, false, false, false, false] rfl rfl (any_of HT_.out (by kernel_rfl)) (fun _ _ _ h => h) (Or.inl ⟨by rfl, ?_⟩) ?_ ?_
 rotate_left
 ·
  intro w'
  go_simp
  with_reducible rfl
 rotate_left
 ·
  simp only [Act.put, sa_', sz_', sc_', i64_w, i32_w]
  rfl
 refine pure_ (i := 10) (N := some 15) (v := ?_) (a' := ?_) #[true, false, true, false, false, true, false, true, false, false, true, false, false, false, false, false, false, false] rfl rfl (any_of HT_.out (by kernel_rfl)) (fun _ _ _ h => h) (Or.inl ⟨by rfl, ?_⟩) ?_ ?_
 rotate_left
 ·
  intro w'
  go_simp
  with_reducible rfl
 rotate_left
 ·
  simp only [Act.put, sa_', sz_', sc_', i64_w, i32_w]
  rfl
 refine pure_ (i := 12) (N := some 17) (v := ?_) (a' := ?_) #[true, false, true, false, false, true, false, true, false, false, true, false, true, false, false, false, false, false] rfl rfl (any_of HT_.out (by kernel_rfl)) (fun _ _ _ h => h) (Or.inl ⟨by rfl, ?_⟩) ?_ ?_
 rotate_left
 ·
  intro w'
  go_simp
  with_reducible rfl
 rotate_left
 ·
  simp only [Act.put, sa_', sz_', sc_', i64_w, i32_w]
  rfl
 refine take_ (i := 1) (N := some 6) (v := ?_) (a' := ?_) #[true, true, true, false, false, true, false, true, false, false, true, false, true, false, false, false, false, false] rfl rfl (take_ofW HT_.out HW_.out (by kernel_rfl)) (fun _ _ _ h => h) (Or.inl ⟨by rfl, ?_⟩) hHeld ?_ ?_
 rotate_left
 ·
  rintro w' ⟨s0, s1, s2, s3, s4, s5, s6, s7⟩
  go_simp
  with_reducible rfl
 rotate_left
 ·
  simp only [Act.put, sa_', sz_', sc_', i64_w, i32_w]
  rfl
 refine take_ (i := 3) (N := some 8) (v := ?_) (a' := ?_) #[true, true, true, true, false, true, false, true, false, false, true, false, true, false, false, false, false, false] rfl rfl (take_ofW HT_.out HW_.out (by kernel_rfl)) (fun _ _ _ h => h) (Or.inl ⟨by rfl, ?_⟩) hHeld ?_ ?_
 rotate_left
 ·
  rintro w' ⟨s0, s1, s2, s3, s4, s5, s6, s7⟩
  go_simp
  with_reducible rfl
 rotate_left
 ·
  simp only [Act.put, sa_', sz_', sc_', i64_w, i32_w]
  rfl
 refine take_ (i := 6) (N := some 11) (v := ?_) (a' := ?_) #[true, true, true, true, false, true, true, true, false, false, true, false, true, false, false, false, false, false] rfl rfl (take_ofW HT_.out HW_.out (by kernel_rfl)) (fun _ _ _ h => h) (Or.inl ⟨by rfl, ?_⟩) hHeld ?_ ?_
 rotate_left
 ·
  rintro w' ⟨s0, s1, s2, s3, s4, s5, s6, s7⟩
  go_simp
  with_reducible rfl
 rotate_left
 ·
  simp only [Act.put, sa_', sz_', sc_', i64_w, i32_w]
  rfl
 refine take_ (i := 8) (N := some 13) (v := ?_) (a' := ?_) #[true, true, true, true, false, true, true, true, true, false, true, false, true, false, false, false, false, false] rfl rfl (take_ofW HT_.out HW_.out (by kernel_rfl)) (fun _ _ _ h => h) (Or.inl ⟨by rfl, ?_⟩) hHeld ?_ ?_
 rotate_left
 ·
  rintro w' ⟨s0, s1, s2, s3, s4, s5, s6, s7⟩
  go_simp
  with_reducible rfl
 rotate_left
 ·
  simp only [Act.put, sa_', sz_', sc_', i64_w, i32_w]
  rfl
 refine take_ (i := 11) (N := some 16) (v := ?_) (a' := ?_) #[true, true, true, true, false, true, true, true, true, false, true, true, true, false, false, false, false, false] rfl rfl (take_ofW HT_.out HW_.out (by kernel_rfl)) (fun _ _ _ h => h) (Or.inl ⟨by rfl, ?_⟩) hHeld ?_ ?_
 rotate_left
 ·
  rintro w' ⟨s0, s1, s2, s3, s4, s5, s6, s7⟩
  go_simp
  with_reducible rfl
 rotate_left
 ·
  simp only [Act.put, sa_', sz_', sc_', i64_w, i32_w]
  rfl
 refine take_ (i := 13) (N := some 18) (v := ?_) (a' := ?_) #[true, true, true, true, false, true, true, true, true, false, true, true, true, true, false, false, false, false] rfl rfl (take_ofW HT_.out HW_.out (by kernel_rfl)) (fun _ _ _ h => h) (Or.inl ⟨by rfl, ?_⟩) hHeld ?_ ?_
 rotate_left
 ·
  rintro w' ⟨s0, s1, s2, s3, s4, s5, s6, s7⟩
  go_simp
  with_reducible rfl
 rotate_left
 ·
  simp only [Act.put, sa_', sz_', sc_', i64_w, i32_w]
  rfl
 refine one_ (i := 4) (N := some 9) #[true, true, true, true, true, true, true, true, true, false, true, true, true, true, false, false, false, false] rfl rfl (one_of HT_.out (by kernel_rfl)) (by decide) (fun K hK => ?_)
 refine goes_ Try.func158 (by kernel_rfl) rfl #[.int .i64 a0_0, .int .i64 a1_0] (by rfl) rfl rfl (by (try simp only [xm_', xc_', xn_']); first | done | rfl | (simp only [xd_', xt_']; rfl)) ?_
 with_reducible refine (cmp_Compare_int.calls a0_0 a1_0 t560 _ A3.out).mono ?_
 rintro e w' ⟨rfl, ⟨nd, rfl⟩⟩
 refine ⟨_, rfl, ?_⟩
 refine hK.out _ _ ⟨(kc_' BK558.out 0).trans rfl, (kc_' BK558.out 1).trans rfl, (kc_' BK558.out 2).trans rfl, (kc_' BK558.out 3).trans rfl, (kc_' BK559.out 0).trans rfl, (kc_' BK559.out 1).trans rfl, (kc_' BK559.out 2).trans rfl, (kc_' BK559.out 3).trans rfl⟩ (fun hHeld => ?_)
 clear hK K
 refine norm_ (a' := ?_) ?_ ?_
 rotate_left
 ·
  show Act.put _ (some 9) _ = _
  simp only [Act.put, sa_', sz_', sc_', i64_w, i32_w]
  rfl
 refine one_ (i := 9) (N := some 14) #[true, true, true, true, true, true, true, true, true, true, true, true, true, true, false, false, false, false] rfl rfl (one_of HT_.out (by kernel_rfl)) (by decide) (fun K hK => ?_)
 refine goes_ Try.func158 (by kernel_rfl) rfl #[.int .i64 a0_3, .int .i64 a1_3] (by rfl) rfl rfl (by (try simp only [xm_', xc_', xn_']); first | done | rfl | (simp only [xd_', xt_']; rfl)) ?_
 with_reducible refine (cmp_Compare_int.calls a0_3 a1_3 t561 _ A4.out).mono ?_
 rintro e w' ⟨rfl, ⟨nd, rfl⟩⟩
 refine ⟨_, rfl, ?_⟩
 refine hK.out _ _ ⟨(kc_' BK558.out 0).trans rfl, (kc_' BK558.out 1).trans rfl, (kc_' BK558.out 2).trans rfl, (kc_' BK558.out 3).trans rfl, (kc_' BK559.out 0).trans rfl, (kc_' BK559.out 1).trans rfl, (kc_' BK559.out 2).trans rfl, (kc_' BK559.out 3).trans rfl⟩ (fun hHeld => ?_)
 clear hK K
 refine norm_ (a' := ?_) ?_ ?_
 rotate_left
 ·
  show Act.put _ (some 14) _ = _
  simp only [Act.put, sa_', sz_', sc_', i64_w, i32_w]
  rfl
 refine one_ (i := 14) (N := some 19) #[true, true, true, true, true, true, true, true, true, true, true, true, true, true, true, false, false, false] rfl rfl (one_of HT_.out (by kernel_rfl)) (by decide) (fun K hK => ?_)
 refine goes_ Try.func158 (by kernel_rfl) rfl #[.int .i64 a0_2, .int .i64 a1_2] (by rfl) rfl rfl (by (try simp only [xm_', xc_', xn_']); first | done | rfl | (simp only [xd_', xt_']; rfl)) ?_
 with_reducible refine (cmp_Compare_int.calls a0_2 a1_2 t562 _ A5.out).mono ?_
 rintro e w' ⟨rfl, ⟨nd, rfl⟩⟩
 refine ⟨_, rfl, ?_⟩
 refine hK.out _ _ ⟨(kc_' BK558.out 0).trans rfl, (kc_' BK558.out 1).trans rfl, (kc_' BK558.out 2).trans rfl, (kc_' BK558.out 3).trans rfl, (kc_' BK559.out 0).trans rfl, (kc_' BK559.out 1).trans rfl, (kc_' BK559.out 2).trans rfl, (kc_' BK559.out 3).trans rfl⟩ (fun hHeld => ?_)
 clear hK K
 refine norm_ (a' := ?_) ?_ ?_
 rotate_left
 ·
  show Act.put _ (some 19) _ = _
  simp only [Act.put, sa_', sz_', sc_', i64_w, i32_w]
  rfl
 refine one_ (i := 15) (N := some 20) #[true, true, true, true, true, true, true, true, true, true, true, true, true, true, true, true, false, false] rfl rfl (one_of HT_.out (by kernel_rfl)) (by decide) (fun K hK => ?_)
 refine Kd.R_lit_step (Kd.int .i64) _ 3 ?hg (N := 20) ?hd (xs := ([t560, t561, t562] : List Int)) (inner := [.int .i64 t560, .int .i64 t561, .int .i64 t562]) (ok := fun _ => True) (okp := fun _ => True) ?hr ?hp (fun _ hk => hk) trivial (Below.refl _ _) (Nat.le_refl _) (by simp) ?_; (case hd => rfl); (case hg => rfl); (case hr => first | (go_simp; done) | (go_simp; rfl)); (case hp => exact (Reps.one (show Kd.M (Kd.int .i64) _ _ _ t560 [.int .i64 t560] from rfl) (Reps.one (show Kd.M (Kd.int .i64) _ _ _ t561 [.int .i64 t561] from rfl) (Reps.one (show Kd.M (Kd.int .i64) _ _ _ t562 [.int .i64 t562] from rfl) (Reps.none _ _)))))
 intro v564 w10 ho11 hb hg_ hnew_
 clear hg_ hnew_
 (first | rw [← Ny563.out] at ho11 | (simp only [Int.reduceToNat] at ho11; rw [← Ny563.out] at ho11))
 have n0_ := sk_' (Kd.R_lower ho11 (ps_' (bm HB)))
 have n1_ := sk_' (blk_below (g := gb558) (o := .cells #[.int .i64 a0_0, .int .i64 a0_1, .int .i64 a0_2, .int .i64 a0_3] 118 (0, 0)) (km BK558) hb)
 have n2_ := sk_' (blk_below (g := gb559) (o := .cells #[.int .i64 a1_0, .int .i64 a1_1, .int .i64 a1_2, .int .i64 a1_3] 118 (0, 0)) (km BK559) hb)
 have n3_ := sk_' (pp_' (bm HB) hb)
 clear BK558
 clear BK559
 clear HB
 have HO565 := n0_
 have BK558 := n1_
 have BK559 := n2_
 have HB := n3_
 clear n0_ n1_ n2_ n3_
 clear hb ho11
 obtain ⟨Ao12, co12, eo12⟩ := Kd.R_slice HO565.out
 (first | subst eo12 | (injection eo12 with f1_ f2_ f3_; have f4_ := f1_.symm; have f5_ := f3_.symm; clear f1_ f2_ f3_; subst f4_; subst f5_))
 refine hK.out _ _ ⟨(kc_' BK558.out 0).trans rfl, (kc_' BK558.out 1).trans rfl, (kc_' BK558.out 2).trans rfl, (kc_' BK558.out 3).trans rfl, (kc_' BK559.out 0).trans rfl, (kc_' BK559.out 1).trans rfl, (kc_' BK559.out 2).trans rfl, (kc_' BK559.out 3).trans rfl⟩ (fun hHeld => ?_)
 clear hK K
 refine norm_ (a' := ?_) ?_ ?_
 rotate_left
 ·
  show Act.put _ (some 20) _ = _
  simp only [Act.put, sa_', sz_', sc_', i64_w, i32_w]
  rfl
 refine one_ (i := 16) (N := some 21) #[true, true, true, true, true, true, true, true, true, true, true, true, true, true, true, true, true, false] rfl rfl (one_of HT_.out (by kernel_rfl)) (by decide) (fun K hK => ?_)
 refine goes_ Try.func157 (by kernel_rfl) rfl #[.slice Ao12 y563.length co12] (by rfl) rfl rfl (by (try simp only [xm_', xc_', xn_']); first | done | rfl | (simp only [xd_', xt_']; rfl)) ?_
 with_reducible refine (cmp_Or_int.calls k _ _ y563 t566 _ ?side1 ?side2 A6.out).mono ?_
 (case side1 => repeat (first | exact (xr_' HO565.out).2.2 | (with_reducible refine xg_' ?_ _) | (with_reducible refine xe_' ?_ _) | (with_reducible refine xf_' ?_)))
 (case side2 => exact (xr_' HO565.out).2.1)
 rintro e w' ⟨rfl, ⟨nd, rfl⟩⟩
 refine ⟨_, rfl, ?_⟩
 refine hK.out _ _ ⟨(kc_' BK558.out 0).trans rfl, (kc_' BK558.out 1).trans rfl, (kc_' BK558.out 2).trans rfl, (kc_' BK558.out 3).trans rfl, (kc_' BK559.out 0).trans rfl, (kc_' BK559.out 1).trans rfl, (kc_' BK559.out 2).trans rfl, (kc_' BK559.out 3).trans rfl⟩ (fun hHeld => ?_)
 clear hK K
 refine norm_ (a' := ?_) ?_ ?_
 rotate_left
 ·
  show Act.put _ (some 21) _ = _
  simp only [Act.put, sa_', sz_', sc_', i64_w, i32_w]
  rfl
 refine pure_ (i := 17) (N := some 4) (v := ?_) (a' := ?_) #[true, true, true, true, true, true, true, true, true, true, true, true, true, true, true, true, true, true] rfl rfl (any_of HT_.out (by kernel_rfl)) (fun _ _ _ h => h) (Or.inl ⟨by rfl, ?_⟩) ?_ ?_
 rotate_left
 ·
  intro w'
  go_simp
  with_reducible rfl
 rotate_left
 ·
  simp only [Act.put, sa_', sz_', sc_', i64_w, i32_w]
  rfl
 refine done_ (done_of HT_.out (by kernel_rfl)) ?_
 try go_wp2
 go_ret
 exact ⟨rfl, bm HB⟩
end Go.Proofs.Ytiophiipmgpaeaa.F
