/- FnTempos, part 6 of 6: texts of the claim, joined into one file. -/
import Derived.Test.YtbhlmeghbfmgiaaZFnTempos5
import Derived.Deep.Slices
import Derived.Deep.Fields
import Derived.ChangeSame
import Derived.ChangeArms
import Derived.Lib.SmallJoins
import Derived.OpenShut
import Derived.Test.YtbhlmeghbfmgiaaRows
import Derived.WalkKit
import Derived.ProofKit
import Derived.ShutString
import Derived.ChangeOld
import Derived.Below
import Derived.Carry
import Derived.SizedLaws

namespace Go.Proofs.Ytbhlmeghbfmgiaa.F
open Go.RowKit Go.Proofs.YtbhlmeghbfmgiaaW.PrintWords Go.Proofs.YtbhlmeghbfmgiaaW.PrintLast Go.Proofs.YtbhlmeghbfmgiaaW.PrintMore
attribute [local go_sem] max2_int min2_int max_two min_two max_three min_three max_four min_four
set_option linter.unusedVariables false
set_option linter.unusedSimpArgs false
attribute [local go_sem high] eqA95
mutual
def laws_FnTempos.j1 : Nat → List Int → Option (Bool)
 | 0, _ => none
 | k + 1, x0 => (spec_DrawTickAt.f k x0).bind fun bt1692 => ((impl_TickAt.f k bt1692.1 bt1692.2.1 bt1692.2.2).bind fun bt1698 => (if bt1698.2.2 = true then ((impl_IsRatio.f k bt1698.1 bt1698.2.1).bind fun t1702 => (if t1702 = true then (laws_FnTempos.j2 k x0 (decide (bt1698.1 < 0))) else (laws_FnTempos.j2 k x0 true))) else (laws_FnTempos.j2 k x0 false)))
def laws_FnTempos.j2 : Nat → List Int → Bool → Option (Bool)
 | 0, _, _ => none
 | k + 1, x0, x87 => if x87 = true then (some false) else ((spec_DrawScaleTempo.f k x0).bind fun bt1703 => ((impl_ScaleTempo.f k bt1703.1 bt1703.2).bind fun bt1707 => (if (bt1707.1.length : Int) = (bt1703.1.length : Int) then (if bt1707.2 = true then ((impl_IsTempo.f k bt1707.1).bind fun t1711 => (some t1711)) else (some true)) else (some false))))
def laws_FnTempos.j0 : Nat → List Int → List (S151) → Int → Bool → Int → Int → Option (Bool)
 | 0, _, _, _, _, _, _ => none
 | k + 1, x0, x3, x4, x45, x1681000, x1681001 => if x45 = true then (some false) else ((impl_TimeOf.f k x3 (wrap64 (x4 + 1))).bind fun bt1685 => (if bt1685.2.2 = true then ((impl_LessRatio.f k x1681000 x1681001 bt1685.1 bt1685.2.1).bind fun t1689 => (if t1689 = true then ((impl_RateAt.f k x3 x4).bind fun t1690 => (if t1690 < 20 then (some false) else (laws_FnTempos.j1 k x0))) else (some false))) else ((impl_RateAt.f k x3 x4).bind fun t1691 => (if t1691 < 20 then (some false) else (laws_FnTempos.j1 k x0)))))
end
def laws_FnTempos.f (k : Nat) (l0 : List Int) : Option (Bool) := (laws_big.f l0).bind fun t1672 => (if t1672 = true then (some true) else ((spec_DrawTimeOf.f k l0).bind fun bt1673 => ((impl_TimeOf.f k bt1673.1 bt1673.2).bind fun bt1677 => (if bt1677.2.2 = true then ((impl_TickAt.f k bt1673.1 bt1677.1 bt1677.2.1).bind fun bt1681 => (if bt1681.2.2 = true then (laws_FnTempos.j0 k l0 bt1673.1 bt1673.2 (!(bt1681.1 == bt1673.2) || (!(bt1681.2.1 == 1))) bt1677.1 bt1677.2.1) else (laws_FnTempos.j0 k l0 bt1673.1 bt1673.2 false bt1677.1 bt1677.2.1))) else (laws_FnTempos.j1 k l0)))))
set_option maxHeartbeats 8000000 in
set_option maxRecDepth 100000 in
theorem laws_FnTempos.calls (k : Nat) (A0 : Option Addr) (c0 : Nat) (l0 : List Int) (r : Bool) (w : World) (hr0 : Kd.C (Kd.int .u8) w A0 l0.length l0) (hc0 : l0.length ≤ c0) (h : laws_FnTempos.f k l0 = some r) :
  Calls Try.prog 8 #[.slice A0 l0.length c0] w fun e w' => e = .returned (.bool r) ∧ Below w.heap.size w w' := by
 have hu95 := Try.underlying95
 have HR0 := Aside0.mk hr0
 have HC0 := Aside0.mk hc0
 clear hr0 hc0
 have HB := Aside0.mk (Below.refl w.heap.size w)
 have H : ((laws_big.f l0).bind fun t1672 => (if t1672 = true then (some true) else ((spec_DrawTimeOf.f k l0).bind fun bt1673 => ((impl_TimeOf.f k bt1673.1 bt1673.2).bind fun bt1677 => (if bt1677.2.2 = true then ((impl_TickAt.f k bt1673.1 bt1677.1 bt1677.2.1).bind fun bt1681 => (if bt1681.2.2 = true then (laws_FnTempos.j0 k l0 bt1673.1 bt1673.2 (!(bt1681.1 == bt1673.2) || (!(bt1681.2.1 == 1))) bt1677.1 bt1677.2.1) else (laws_FnTempos.j0 k l0 bt1673.1 bt1673.2 false bt1677.1 bt1677.2.1))) else (laws_FnTempos.j1 k l0)))))) = some r := h
 clear h
 replace H := Option.bind_eq_some_iff.mp H
 obtain ⟨t1672, A20, H⟩ := H
 try dsimp only at H
 have A2 := Aside0.mk A20
 clear A20
 by_cases c3 : t1672 = true
 ·
  subst c3
  rw [if_pos rfl] at H
  obtain rfl := Option.some.inj H
  go_enter Try.func8, Try.ntmps8
  go_wp2_with (first | ((with_reducible refine gate_callee (f := 10) rfl ?_); refine goesL_ (some 20) rfl rfl Try.func10 (by kernel_rfl) rfl #[.slice A0 l0.length c0] rfl (by (try simp only [List.map_toArray, List.map_cons, List.map_nil]); first | done | rfl | (simp only [List.length_drop, List.length_take]; rfl)) ?_; (with_reducible refine (laws_big.calls _ _ l0 true _ ?side1 ?side2 A2.out).mono ?_); (case side1 => repeat (first | exact HR0.out | (with_reducible refine Kd.C_alloc ?_ _) | (with_reducible refine Kd.C_drewN ?_ _) | (with_reducible refine Kd.C_drew ?_))); (case side2 => exact HC0.out); rintro e w' ⟨rfl, ⟨nd, rfl⟩⟩; refine ⟨_, rfl, ?_⟩))
  go_ret
  exact ⟨by first | rfl | (simp [errW_none, errW_some] <;> rfl) | (simp [*, errW_none, errW_some] <;> rfl), by repeat (first | (with_reducible first | exact HB.out | apply below_alloc | apply pw_below_drewN | apply below_drew1) | exact HB.out)⟩
 ·
  replace c3 := Bool.eq_false_iff.mpr c3
  subst c3
  rw [if_neg (show ¬ (false = true) by decide)] at H
  replace H := Option.bind_eq_some_iff.mp H
  obtain ⟨⟨t1673, t1674⟩, A40, H⟩ := H
  try dsimp only at H
  have A4 := Aside0.mk A40
  clear A40
  replace H := Option.bind_eq_some_iff.mp H
  obtain ⟨⟨t1677, t1678, t1679⟩, A50, H⟩ := H
  try dsimp only at H
  have A5 := Aside0.mk A50
  clear A50
  have HC6 := Aside0.mk H
  clear H
  go_enter Try.func8, Try.ntmps8
  go_upto_if 32 with (first | ((with_reducible refine gate_callee (f := 10) rfl ?_); refine goesL_ (some 20) rfl rfl Try.func10 (by kernel_rfl) rfl #[.slice A0 l0.length c0] rfl (by (try simp only [List.map_toArray, List.map_cons, List.map_nil]); first | done | rfl | (simp only [List.length_drop, List.length_take]; rfl)) ?_; (with_reducible refine (laws_big.calls _ _ l0 false _ ?side1 ?side2 A2.out).mono ?_); (case side1 => repeat (first | exact HR0.out | (with_reducible refine Kd.C_alloc ?_ _) | (with_reducible refine Kd.C_drewN ?_ _) | (with_reducible refine Kd.C_drew ?_))); (case side2 => exact HC0.out); rintro e w' ⟨rfl, ⟨nd, rfl⟩⟩; refine ⟨_, rfl, ?_⟩) | ((with_reducible refine gate_callee (f := 56) rfl ?_); refine goesL_ (some 23) rfl rfl Try.func56 (by kernel_rfl) rfl #[.slice A0 l0.length c0] rfl (by (try simp only [List.map_toArray, List.map_cons, List.map_nil]); first | done | rfl | (simp only [List.length_drop, List.length_take]; rfl)) ?_; (with_reducible refine (spec_DrawTimeOf.calls k _ _ l0 t1673 t1674 _ ?side1 ?side2 A4.out).mono ?_); (case side1 => repeat (first | exact HR0.out | (with_reducible refine Kd.C_alloc ?_ _) | (with_reducible refine Kd.C_drewN ?_ _) | (with_reducible refine Kd.C_drew ?_))); (case side2 => exact HC0.out); rintro e w7 ⟨v1675, rfl, ho0, hb⟩; refine ⟨_, rfl, ?_⟩; have n0_ := Aside0.mk (Kd.R_lower ho0 (below_size (by repeat (first | (with_reducible first | exact HB.out | apply below_alloc | apply pw_below_drewN | apply below_drew1) | exact HB.out)))); have n1_ := Aside0.mk (below_step (by repeat (first | (with_reducible first | exact HB.out | apply below_alloc | apply pw_below_drewN | apply below_drew1) | exact HB.out)) hb); clear HB; have HO1676 := n0_; have HB := n1_; clear n0_ n1_; (try clear hb); (try clear hb2); (try clear hk); (try clear hi); (try clear ho0); obtain ⟨Ao8, co8, eo8⟩ := Kd.R_slice HO1676.out; subst eo8) | ((with_reducible refine gate_callee (f := 57) rfl ?_); refine goesL_ (some 29) rfl rfl Try.func57 (by kernel_rfl) rfl #[.slice Ao8 t1673.length co8, .int .i64 t1674] rfl (by (try simp only [List.map_toArray, List.map_cons, List.map_nil]); first | done | rfl | (simp only [List.length_drop, List.length_take]; rfl)) ?_; (with_reducible refine (impl_TimeOf.calls k _ _ t1673 t1674 t1677 t1678 t1679 _ ?side1 ?side2 A5.out).mono ?_); (case side1 => repeat (first | exact (Kd.R_reads' HO1676.out).2.2 | (with_reducible refine Kd.C_alloc ?_ _) | (with_reducible refine Kd.C_drewN ?_ _) | (with_reducible refine Kd.C_drew ?_))); (case side2 => exact (Kd.R_reads' HO1676.out).2.1); rintro e w9 ⟨rfl, hb⟩; refine ⟨_, rfl, ?_⟩; have n0_ := Aside0.mk (Kd.R_below (by (with_reducible repeat (first | apply Kd.R_alloc | apply Kd.R_drewN | apply Kd.R_drew)); exact HO1676.out) hb); have n1_ := Aside0.mk (below_step (by repeat (first | (with_reducible first | exact HB.out | apply below_alloc | apply pw_below_drewN | apply below_drew1) | exact HB.out)) hb); clear HO1676; clear HB; have HO1676 := n0_; have HB := n1_; clear n0_ n1_; (try clear hb); (try clear hb2); (try clear hk); (try clear hi)) | ((with_reducible refine gate_dst (N := 5) rfl ?_); refine box_event ?hg (N := 5) ?hd (cs := #[.int .i64 0, .int .i64 0]) (t := 95) ?hr ?_; (case hd => rfl); (case hg => rfl); (case hr => first | (go_simp; done) | (go_simp; rfl)); intro gb1680 hg w10 hbox hb; have n0_ := Aside0.mk (Kd.R_below (by (with_reducible repeat (first | apply Kd.R_alloc | apply Kd.R_drewN | apply Kd.R_drew)); exact HO1676.out) hb); have n1_ := Aside0.mk (below_step (by repeat (first | (with_reducible first | exact HB.out | apply below_alloc | apply pw_below_drewN | apply below_drew1) | exact HB.out)) hb); have n2_ := Aside0.mk (hbox); have n3_ := Aside0.mk ((by rw [hg]; exact (below_size (by repeat (first | (with_reducible first | exact HB.out | apply below_alloc | apply pw_below_drewN | apply below_drew1) | exact HB.out))) : w.heap.size ≤ gb1680)); have n4_ := Aside0.mk ((by rw [hg]; exact (below_size (by repeat (first | (with_reducible first | exact HB.out | apply below_alloc | apply pw_below_drewN | apply below_drew1) | exact HB.out))) : w.heap.size ≤ gb1680)); clear HO1676; clear HB; have HO1676 := n0_; have HB := n1_; have BK1680 := n2_; have GW1680 := n3_; have GE1680 := n4_; clear n0_ n1_ n2_ n3_ n4_; clear hb hbox hg; have hcz11_0 : w10.cell? ⟨gb1680, 0, none⟩ = some (.int .i64 0) := (blk_cell BK1680.out 0).trans rfl; have hcz11_1 : w10.cell? ⟨gb1680, 1, none⟩ = some (.int .i64 0) := (blk_cell BK1680.out 1).trans rfl; have hfz11_0 := blk_frozen BK1680.out 0; have hfz11_1 := blk_frozen BK1680.out 1))
  (try simp only [Act.put, List.setIfInBounds_toArray, List.set_cons_zero, List.set_cons_succ])
  go_cut [] (fun wc => ∃ (kq : Nat), Aside0 (laws_FnTempos.j1 kq l0 = some r) ∧ Aside0 (kq ≤ k) ∧ Aside0 (wc.heap[gb1680]? = some (.cells #[.int .i64 t1677, .int .i64 t1678] 95 (0, 0))) ∧ Aside0 (Below w.heap.size w wc))
  case first =>
   have H := HC6.out
   clear HC6
   by_cases c12 : t1679 = true
   ·
    subst c12
    rw [if_pos rfl] at H
    replace H := Option.bind_eq_some_iff.mp H
    obtain ⟨⟨t1681, t1682, t1683⟩, A130, H⟩ := H
    try dsimp only at H
    have A13 := Aside0.mk A130
    clear A130
    have HC14 := Aside0.mk H
    clear H
    have hcz15_0 : w10.cell? ⟨gb1680, 0, none⟩ = some (.int .i64 0) := (blk_cell BK1680.out 0).trans rfl
    have hcz15_1 : w10.cell? ⟨gb1680, 1, none⟩ = some (.int .i64 0) := (blk_cell BK1680.out 1).trans rfl
    have hfz15_0 := blk_frozen BK1680.out 0
    have hfz15_1 := blk_frozen BK1680.out 1
    go_upto_region 7 with (first | ((with_reducible refine gate_callee (f := 58) rfl ?_); refine goesL_ (some 36) rfl rfl Try.func58 (by kernel_rfl) rfl #[.slice Ao8 t1673.length co8, .agg #[.int .i64 t1677, .int .i64 t1678]] rfl (by (try simp only [List.map_toArray, List.map_cons, List.map_nil]); first | done | rfl | (simp only [List.length_drop, List.length_take]; rfl)) ?_; (with_reducible refine (impl_TickAt.calls k _ _ t1673 t1677 t1678 t1681 t1682 t1683 _ ?side1 ?side2 A13.out).mono ?_); (case side1 => refine (Kd.R_reads' (e := 151) (base := w.heap.size) (ok := fun k_ => True) (n := t1673.length) (c := co8) ?_).2.2; exact (by (with_reducible repeat (first | apply Kd.R_alloc | apply Kd.R_drewN | apply Kd.R_drew)); exact (Kd.R_mono (Kd.R_far (p := ⟨gb1680, 1, none⟩) (Kd.R_far (p := ⟨gb1680, 0, none⟩) (Kd.R_types HO1676.out BK1680.out (by decide)) (fun _ hk => hk.2) (.int .i64 t1677)) (fun _ hk => hk.2) (.int .i64 t1678)) (fun _ h_ => h_.1)))); (case side2 => exact (Kd.R_reads' HO1676.out).2.1); rintro e w16 ⟨rfl, hb⟩; refine ⟨_, rfl, ?_⟩; have n0_ := Aside0.mk (Kd.R_below (by (with_reducible repeat (first | apply Kd.R_alloc | apply Kd.R_drewN | apply Kd.R_drew)); exact (Kd.R_mono (Kd.R_far (p := ⟨gb1680, 1, none⟩) (Kd.R_far (p := ⟨gb1680, 0, none⟩) (Kd.R_types HO1676.out BK1680.out (by decide)) (fun _ hk => hk.2) (.int .i64 t1677)) (fun _ hk => hk.2) (.int .i64 t1678)) (fun _ h_ => h_.1))) hb); have n1_ := Aside0.mk (blk_below (g := gb1680) (o := .cells #[.int .i64 t1677, .int .i64 t1678] 95 (0, 0)) (by (with_reducible repeat (first | refine blk_drewN ?_ _ | refine blk_drew ?_ | refine blk_alloc ?_ _)); refine blk_put (cs := #[.int .i64 t1677, .int .i64 0]) ?_ 1 _ rfl; (with_reducible repeat (first | refine blk_drewN ?_ _ | refine blk_drew ?_ | refine blk_alloc ?_ _)); refine blk_put (cs := #[.int .i64 0, .int .i64 0]) ?_ 0 _ rfl; (with_reducible repeat (first | refine blk_drewN ?_ _ | refine blk_drew ?_ | refine blk_alloc ?_ _)); exact BK1680.out) hb); have n2_ := Aside0.mk (below_step (by repeat (first | (with_reducible first | exact HB.out | apply below_alloc | apply pw_below_drewN | apply below_drew1 | refine below_set ?_ GE1680.out) | exact HB.out)) hb); clear HO1676; clear BK1680; clear HB; have HO1676 := n0_; have BK1680 := n1_; have HB := n2_; clear n0_ n1_ n2_; (try clear hb); (try clear hb2); (try clear hk); (try clear hi)) | ((with_reducible refine gate_dst (N := 7) rfl ?_); refine box_event ?hg (N := 7) ?hd (cs := #[.int .i64 0, .int .i64 0]) (t := 95) ?hr ?_; (case hd => rfl); (case hg => rfl); (case hr => first | (go_simp; done) | (go_simp; rfl)); intro gb1684 hg w17 hbox hb; have n0_ := Aside0.mk (Kd.R_below (by (with_reducible repeat (first | apply Kd.R_alloc | apply Kd.R_drewN | apply Kd.R_drew)); exact HO1676.out) hb); have n1_ := Aside0.mk (blk_below (g := gb1680) (o := .cells #[.int .i64 t1677, .int .i64 t1678] 95 (0, 0)) (by (with_reducible repeat (first | refine blk_drewN ?_ _ | refine blk_drew ?_ | refine blk_alloc ?_ _)); exact BK1680.out) hb); have n2_ := Aside0.mk (below_step (by repeat (first | (with_reducible first | exact HB.out | apply below_alloc | apply pw_below_drewN | apply below_drew1 | refine below_set ?_ GE1680.out) | exact HB.out)) hb); have n3_ := Aside0.mk (hbox); have n4_ := Aside0.mk ((by rw [hg]; exact (below_size (by repeat (first | (with_reducible first | exact HB.out | apply below_alloc | apply pw_below_drewN | apply below_drew1 | refine below_set ?_ GE1680.out) | exact HB.out))) : w.heap.size ≤ gb1684)); have n5_ := Aside0.mk ((by rw [hg]; exact (below_size (by repeat (first | (with_reducible first | exact HB.out | apply below_alloc | apply pw_below_drewN | apply below_drew1 | refine below_set ?_ GE1680.out) | exact HB.out))) : w.heap.size ≤ gb1684)); have n6_ := Aside0.mk ((by rw [hg]; exact Nat.ne_of_lt (blk_lt (g := gb1680) (o := .cells #[.int .i64 t1677, .int .i64 t1678] 95 (0, 0)) (by (with_reducible repeat (first | refine blk_drewN ?_ _ | refine blk_drew ?_ | refine blk_alloc ?_ _)); exact BK1680.out)) : gb1680 ≠ gb1684)); have n7_ := Aside0.mk ((by rw [hg]; exact Nat.ne_of_gt (blk_lt (g := gb1680) (o := .cells #[.int .i64 t1677, .int .i64 t1678] 95 (0, 0)) (by (with_reducible repeat (first | refine blk_drewN ?_ _ | refine blk_drew ?_ | refine blk_alloc ?_ _)); exact BK1680.out)) : gb1684 ≠ gb1680)); clear HO1676; clear BK1680; clear HB; have HO1676 := n0_; have BK1680 := n1_; have HB := n2_; have BK1684 := n3_; have GW1684 := n4_; have GE1684 := n5_; have NB1680_1684 := n6_; have NB1684_1680 := n7_; clear n0_ n1_ n2_ n3_ n4_ n5_ n6_ n7_; clear hb hbox hg; have hnb18 := NB1684_1680.out; have hnc18 := NB1680_1684.out; have hcz19_0 : w17.cell? ⟨gb1684, 0, none⟩ = some (.int .i64 0) := (blk_cell BK1684.out 0).trans rfl; have hcz19_1 : w17.cell? ⟨gb1684, 1, none⟩ = some (.int .i64 0) := (blk_cell BK1684.out 1).trans rfl; have hfz19_0 := blk_frozen BK1684.out 0; have hfz19_1 := blk_frozen BK1684.out 1))
    (try simp only [Act.put, List.setIfInBounds_toArray, List.set_cons_zero, List.set_cons_succ])
    go_cut [45] (fun v45 wc => ∃ (kq : Nat) (x45_13 : Bool), v45 = .bool x45_13 ∧ Aside0 (laws_FnTempos.j0 kq l0 t1673 t1674 x45_13 t1677 t1678 = some r) ∧ Aside0 (kq ≤ k) ∧ Aside0 (Kd.R k151 151 wc w.heap.size (fun _ => True) (.slice Ao8 t1673.length co8) t1673) ∧ Aside0 (wc.heap[gb1680]? = some (.cells #[.int .i64 t1677, .int .i64 t1678] 95 (0, 0))) ∧ Aside0 (wc.heap[gb1684]? = some (.cells #[.int .i64 t1681, .int .i64 t1682] 95 (0, 0))) ∧ Aside0 (Below w.heap.size w wc))
    case first =>
     have H := HC14.out
     clear HC14
     by_cases c20 : t1683 = true
     ·
      subst c20
      rw [if_pos rfl] at H
      have H' := Aside0.mk H
      clear H
      have hnb21 := NB1684_1680.out
      have hnc21 := NB1680_1684.out
      have hcz22_0 : w17.cell? ⟨gb1684, 0, none⟩ = some (.int .i64 0) := (blk_cell BK1684.out 0).trans rfl
      have hcz22_1 : w17.cell? ⟨gb1684, 1, none⟩ = some (.int .i64 0) := (blk_cell BK1684.out 1).trans rfl
      have hfz22_0 := blk_frozen BK1684.out 0
      have hfz22_1 := blk_frozen BK1684.out 1
      go_wp2
      go_meet
      case rel => exact ⟨_, ((!(t1681 == t1674) || (!(t1682 == 1)))), (by first | rfl | (simp; done) | (simp [*]; done)), H', ⟨by first | omega | exact Nat.le_refl _⟩, ⟨by (with_reducible repeat (first | apply Kd.R_alloc | apply Kd.R_drewN | apply Kd.R_drew)); exact Kd.R_mono (Kd.R_far (p := ⟨gb1684, 1, none⟩) (Kd.R_far (p := ⟨gb1684, 0, none⟩) (Kd.R_types HO1676.out BK1684.out (by decide)) (fun _ hk => hk.2) (.int .i64 t1681)) (fun _ hk => hk.2) (.int .i64 t1682)) (fun _ hk => trivial)⟩, ⟨by (with_reducible repeat (first | refine blk_drewN ?_ _ | refine blk_drew ?_ | refine blk_alloc ?_ _)); refine blk_far ?_ NB1680_1684.out _; (with_reducible repeat (first | refine blk_drewN ?_ _ | refine blk_drew ?_ | refine blk_alloc ?_ _)); refine blk_far ?_ NB1680_1684.out _; (with_reducible repeat (first | refine blk_drewN ?_ _ | refine blk_drew ?_ | refine blk_alloc ?_ _)); exact BK1680.out⟩, ⟨by (with_reducible repeat (first | refine blk_drewN ?_ _ | refine blk_drew ?_ | refine blk_alloc ?_ _)); refine blk_put (cs := #[.int .i64 t1681, .int .i64 0]) ?_ 1 _ rfl; (with_reducible repeat (first | refine blk_drewN ?_ _ | refine blk_drew ?_ | refine blk_alloc ?_ _)); refine blk_put (cs := #[.int .i64 0, .int .i64 0]) ?_ 0 _ rfl; (with_reducible repeat (first | refine blk_drewN ?_ _ | refine blk_drew ?_ | refine blk_alloc ?_ _)); exact BK1684.out⟩, ⟨by repeat (first | (with_reducible first | exact HB.out | apply below_alloc | apply pw_below_drewN | apply below_drew1 | refine below_set ?_ GE1680.out | refine below_set ?_ GE1684.out) | exact HB.out)⟩⟩
     ·
      replace c20 := Bool.eq_false_iff.mpr c20
      subst c20
      rw [if_neg (show ¬ (false = true) by decide)] at H
      have H' := Aside0.mk H
      clear H
      go_wp2
      go_meet
      case rel => exact ⟨_, (false), (by first | rfl | (simp; done) | (simp [*]; done)), H', ⟨by first | omega | exact Nat.le_refl _⟩, ⟨by (with_reducible repeat (first | apply Kd.R_alloc | apply Kd.R_drewN | apply Kd.R_drew)); exact Kd.R_mono (Kd.R_far (p := ⟨gb1684, 1, none⟩) (Kd.R_far (p := ⟨gb1684, 0, none⟩) (Kd.R_types HO1676.out BK1684.out (by decide)) (fun _ hk => hk.2) (.int .i64 t1681)) (fun _ hk => hk.2) (.int .i64 t1682)) (fun _ hk => trivial)⟩, ⟨by (with_reducible repeat (first | refine blk_drewN ?_ _ | refine blk_drew ?_ | refine blk_alloc ?_ _)); refine blk_far ?_ NB1680_1684.out _; (with_reducible repeat (first | refine blk_drewN ?_ _ | refine blk_drew ?_ | refine blk_alloc ?_ _)); refine blk_far ?_ NB1680_1684.out _; (with_reducible repeat (first | refine blk_drewN ?_ _ | refine blk_drew ?_ | refine blk_alloc ?_ _)); exact BK1680.out⟩, ⟨by (with_reducible repeat (first | refine blk_drewN ?_ _ | refine blk_drew ?_ | refine blk_alloc ?_ _)); refine blk_put (cs := #[.int .i64 t1681, .int .i64 0]) ?_ 1 _ rfl; (with_reducible repeat (first | refine blk_drewN ?_ _ | refine blk_drew ?_ | refine blk_alloc ?_ _)); refine blk_put (cs := #[.int .i64 0, .int .i64 0]) ?_ 0 _ rfl; (with_reducible repeat (first | refine blk_drewN ?_ _ | refine blk_drew ?_ | refine blk_alloc ?_ _)); exact BK1684.out⟩, ⟨by repeat (first | (with_reducible first | exact HB.out | apply below_alloc | apply pw_below_drewN | apply below_drew1 | refine below_set ?_ GE1680.out | refine below_set ?_ GE1684.out) | exact HB.out)⟩⟩
    case rest =>
     clear HC14
     try clear c1
     try clear c2
     try clear p2
     try clear c3
     try clear c5
     try clear c8
     try clear c10
     try clear c12
     try clear c18
     try clear c20
     try clear c21
     try clear hcz11_0
     try clear hcz11_1
     try clear hcz15_0
     try clear hcz15_1
     try clear hcz19_0
     try clear hcz19_1
     try clear hcz22_0
     try clear hcz22_1
     try clear hfz11_0
     try clear hfz11_1
     try clear hfz15_0
     try clear hfz15_1
     try clear hfz19_0
     try clear hfz19_1
     try clear hfz22_0
     try clear hfz22_1
     obtain ⟨kq, x45_13, rfl, HA, HJ13, HO_3, BK1680, BK1684, HB⟩ := hcut
     cases kq with
     | zero => exact absurd HA.out (by simp [laws_FnTempos.j0])
     | succ kj13 =>
      have H := HA.out
      clear HA
      simp only [laws_FnTempos.j0] at H
      by_cases c23 : x45_13 = true
      ·
       subst c23
       rw [if_pos rfl] at H
       obtain rfl := Option.some.inj H
       go_wp2
       go_ret
       exact ⟨by first | rfl | (simp [errW_none, errW_some] <;> rfl) | (simp [*, errW_none, errW_some] <;> rfl), by repeat (first | (with_reducible first | exact HB.out | apply below_alloc | apply pw_below_drewN | apply below_drew1 | refine below_set ?_ GE1680.out | refine below_set ?_ GE1684.out) | exact HB.out)⟩
      ·
       replace c23 := Bool.eq_false_iff.mpr c23
       subst c23
       rw [if_neg (show ¬ (false = true) by decide)] at H
       replace H := Option.bind_eq_some_iff.mp H
       obtain ⟨⟨t1685, t1686, t1687⟩, A240, H⟩ := H
       try dsimp only at H
       have A24 := Aside0.mk A240
       clear A240
       by_cases c25 : t1687 = true
       ·
        subst c25
        rw [if_pos rfl] at H
        replace H := Option.bind_eq_some_iff.mp H
        obtain ⟨t1689, A260, H⟩ := H
        try dsimp only at H
        have A26 := Aside0.mk A260
        clear A260
        by_cases c27 : t1689 = true
        ·
         subst c27
         rw [if_pos rfl] at H
         replace H := Option.bind_eq_some_iff.mp H
         obtain ⟨t1690, A280, H⟩ := H
         try dsimp only at H
         have A28 := Aside0.mk A280
         clear A280
         by_cases c29 : t1690 < 20
         ·
          rw [if_pos c29] at H
          have c29b0 : decide (t1690 < 20) = true := decide_eq_true c29
          clear c29
          obtain rfl := Option.some.inj H
          go_wp2_with (first | ((with_reducible refine gate_callee (f := 57) rfl ?_); refine goesL_ (some 50) rfl rfl Try.func57 (by kernel_rfl) rfl #[.slice Ao8 t1673.length co8, .int .i64 (wrap64 (t1674 + 1))] rfl (by (try simp only [List.map_toArray, List.map_cons, List.map_nil]); first | done | rfl | (simp only [List.length_drop, List.length_take]; rfl)) ?_; (with_reducible refine (impl_TimeOf.calls kj13 _ _ t1673 (wrap64 (t1674 + 1)) t1685 t1686 true _ ?side1 ?side2 A24.out).mono ?_); (case side1 => repeat (first | exact (Kd.R_reads' HO_3.out).2.2 | (with_reducible refine Kd.C_alloc ?_ _) | (with_reducible refine Kd.C_drewN ?_ _) | (with_reducible refine Kd.C_drew ?_))); (case side2 => exact (Kd.R_reads' HO_3.out).2.1); rintro e w30 ⟨rfl, hb⟩; refine ⟨_, rfl, ?_⟩; have n0_ := Aside0.mk (Kd.R_below (by (with_reducible repeat (first | apply Kd.R_alloc | apply Kd.R_drewN | apply Kd.R_drew)); exact HO_3.out) hb); have n1_ := Aside0.mk (blk_below (g := gb1680) (o := .cells #[.int .i64 t1677, .int .i64 t1678] 95 (0, 0)) (by (with_reducible repeat (first | refine blk_drewN ?_ _ | refine blk_drew ?_ | refine blk_alloc ?_ _)); exact BK1680.out) hb); have n2_ := Aside0.mk (blk_below (g := gb1684) (o := .cells #[.int .i64 t1681, .int .i64 t1682] 95 (0, 0)) (by (with_reducible repeat (first | refine blk_drewN ?_ _ | refine blk_drew ?_ | refine blk_alloc ?_ _)); exact BK1684.out) hb); have n3_ := Aside0.mk (below_step (by repeat (first | (with_reducible first | exact HB.out | apply below_alloc | apply pw_below_drewN | apply below_drew1 | refine below_set ?_ GE1680.out | refine below_set ?_ GE1684.out) | exact HB.out)) hb); clear HO_3; clear BK1680; clear BK1684; clear HB; have HO_3 := n0_; have BK1680 := n1_; have BK1684 := n2_; have HB := n3_; clear n0_ n1_ n2_ n3_; (try clear hb); (try clear hb2); (try clear hk); (try clear hi)) | ((with_reducible refine gate_dst (N := 9) rfl ?_); refine box_event ?hg (N := 9) ?hd (cs := #[.int .i64 0, .int .i64 0]) (t := 95) ?hr ?_; (case hd => rfl); (case hg => rfl); (case hr => first | (go_simp; done) | (go_simp; rfl)); intro gb1688 hg w31 hbox hb; have n0_ := Aside0.mk (Kd.R_below (by (with_reducible repeat (first | apply Kd.R_alloc | apply Kd.R_drewN | apply Kd.R_drew)); exact HO_3.out) hb); have n1_ := Aside0.mk (blk_below (g := gb1680) (o := .cells #[.int .i64 t1677, .int .i64 t1678] 95 (0, 0)) (by (with_reducible repeat (first | refine blk_drewN ?_ _ | refine blk_drew ?_ | refine blk_alloc ?_ _)); exact BK1680.out) hb); have n2_ := Aside0.mk (blk_below (g := gb1684) (o := .cells #[.int .i64 t1681, .int .i64 t1682] 95 (0, 0)) (by (with_reducible repeat (first | refine blk_drewN ?_ _ | refine blk_drew ?_ | refine blk_alloc ?_ _)); exact BK1684.out) hb); have n3_ := Aside0.mk (below_step (by repeat (first | (with_reducible first | exact HB.out | apply below_alloc | apply pw_below_drewN | apply below_drew1 | refine below_set ?_ GE1680.out | refine below_set ?_ GE1684.out) | exact HB.out)) hb); have n4_ := Aside0.mk (hbox); have n5_ := Aside0.mk ((by rw [hg]; exact (below_size (by repeat (first | (with_reducible first | exact HB.out | apply below_alloc | apply pw_below_drewN | apply below_drew1 | refine below_set ?_ GE1680.out | refine below_set ?_ GE1684.out) | exact HB.out))) : w.heap.size ≤ gb1688)); have n6_ := Aside0.mk ((by rw [hg]; exact (below_size (by repeat (first | (with_reducible first | exact HB.out | apply below_alloc | apply pw_below_drewN | apply below_drew1 | refine below_set ?_ GE1680.out | refine below_set ?_ GE1684.out) | exact HB.out))) : w.heap.size ≤ gb1688)); have n7_ := Aside0.mk ((by rw [hg]; exact Nat.ne_of_lt (blk_lt (g := gb1680) (o := .cells #[.int .i64 t1677, .int .i64 t1678] 95 (0, 0)) (by (with_reducible repeat (first | refine blk_drewN ?_ _ | refine blk_drew ?_ | refine blk_alloc ?_ _)); exact BK1680.out)) : gb1680 ≠ gb1688)); have n8_ := Aside0.mk ((by rw [hg]; exact Nat.ne_of_gt (blk_lt (g := gb1680) (o := .cells #[.int .i64 t1677, .int .i64 t1678] 95 (0, 0)) (by (with_reducible repeat (first | refine blk_drewN ?_ _ | refine blk_drew ?_ | refine blk_alloc ?_ _)); exact BK1680.out)) : gb1688 ≠ gb1680)); have n9_ := Aside0.mk ((by rw [hg]; exact Nat.ne_of_lt (blk_lt (g := gb1684) (o := .cells #[.int .i64 t1681, .int .i64 t1682] 95 (0, 0)) (by (with_reducible repeat (first | refine blk_drewN ?_ _ | refine blk_drew ?_ | refine blk_alloc ?_ _)); exact BK1684.out)) : gb1684 ≠ gb1688)); have n10_ := Aside0.mk ((by rw [hg]; exact Nat.ne_of_gt (blk_lt (g := gb1684) (o := .cells #[.int .i64 t1681, .int .i64 t1682] 95 (0, 0)) (by (with_reducible repeat (first | refine blk_drewN ?_ _ | refine blk_drew ?_ | refine blk_alloc ?_ _)); exact BK1684.out)) : gb1688 ≠ gb1684)); clear HO_3; clear BK1680; clear BK1684; clear HB; have HO_3 := n0_; have BK1680 := n1_; have BK1684 := n2_; have HB := n3_; have BK1688 := n4_; have GW1688 := n5_; have GE1688 := n6_; have NB1680_1688 := n7_; have NB1688_1680 := n8_; have NB1684_1688 := n9_; have NB1688_1684 := n10_; clear n0_ n1_ n2_ n3_ n4_ n5_ n6_ n7_ n8_ n9_ n10_; clear hb hbox hg; have hnb32 := NB1688_1680.out; have hnc32 := NB1680_1688.out; have hnb33 := NB1688_1684.out; have hnc33 := NB1684_1688.out; have hcz34_0 : w31.cell? ⟨gb1688, 0, none⟩ = some (.int .i64 0) := (blk_cell BK1688.out 0).trans rfl; have hcz34_1 : w31.cell? ⟨gb1688, 1, none⟩ = some (.int .i64 0) := (blk_cell BK1688.out 1).trans rfl; have hfz34_0 := blk_frozen BK1688.out 0; have hfz34_1 := blk_frozen BK1688.out 1; have hnb35 := NB1680_1684.out; have hnc35 := NB1684_1680.out; have hcz36_0 : w31.cell? ⟨gb1680, 0, none⟩ = some (.int .i64 t1677) := (blk_cell BK1680.out 0).trans rfl; have hcz36_1 : w31.cell? ⟨gb1680, 1, none⟩ = some (.int .i64 t1678) := (blk_cell BK1680.out 1).trans rfl; have hfz36_0 := blk_frozen BK1680.out 0; have hfz36_1 := blk_frozen BK1680.out 1) | (go_at_call 59; (with_reducible refine (impl_LessRatio.calls kj13 t1677 t1678 t1685 t1686 true _ A26.out).mono ?_); rintro e w37 ⟨rfl, hb⟩; have n0_ := Aside0.mk (Kd.R_below (by (with_reducible repeat (first | apply Kd.R_alloc | apply Kd.R_drewN | apply Kd.R_drew)); exact (Kd.R_mono (Kd.R_far (p := ⟨gb1688, 1, none⟩) (Kd.R_far (p := ⟨gb1688, 0, none⟩) (Kd.R_types HO_3.out BK1688.out (by decide)) (fun _ hk => hk.2) (.int .i64 t1685)) (fun _ hk => hk.2) (.int .i64 t1686)) (fun _ h_ => h_.1))) hb); have n1_ := Aside0.mk (blk_below (g := gb1680) (o := .cells #[.int .i64 t1677, .int .i64 t1678] 95 (0, 0)) (by (with_reducible repeat (first | refine blk_drewN ?_ _ | refine blk_drew ?_ | refine blk_alloc ?_ _)); refine blk_far ?_ NB1680_1688.out _; (with_reducible repeat (first | refine blk_drewN ?_ _ | refine blk_drew ?_ | refine blk_alloc ?_ _)); refine blk_far ?_ NB1680_1688.out _; (with_reducible repeat (first | refine blk_drewN ?_ _ | refine blk_drew ?_ | refine blk_alloc ?_ _)); exact BK1680.out) hb); have n2_ := Aside0.mk (blk_below (g := gb1684) (o := .cells #[.int .i64 t1681, .int .i64 t1682] 95 (0, 0)) (by (with_reducible repeat (first | refine blk_drewN ?_ _ | refine blk_drew ?_ | refine blk_alloc ?_ _)); refine blk_far ?_ NB1684_1688.out _; (with_reducible repeat (first | refine blk_drewN ?_ _ | refine blk_drew ?_ | refine blk_alloc ?_ _)); refine blk_far ?_ NB1684_1688.out _; (with_reducible repeat (first | refine blk_drewN ?_ _ | refine blk_drew ?_ | refine blk_alloc ?_ _)); exact BK1684.out) hb); have n3_ := Aside0.mk (blk_below (g := gb1688) (o := .cells #[.int .i64 t1685, .int .i64 t1686] 95 (0, 0)) (by (with_reducible repeat (first | refine blk_drewN ?_ _ | refine blk_drew ?_ | refine blk_alloc ?_ _)); refine blk_put (cs := #[.int .i64 t1685, .int .i64 0]) ?_ 1 _ rfl; (with_reducible repeat (first | refine blk_drewN ?_ _ | refine blk_drew ?_ | refine blk_alloc ?_ _)); refine blk_put (cs := #[.int .i64 0, .int .i64 0]) ?_ 0 _ rfl; (with_reducible repeat (first | refine blk_drewN ?_ _ | refine blk_drew ?_ | refine blk_alloc ?_ _)); exact BK1688.out) hb); have n4_ := Aside0.mk (below_step (by repeat (first | (with_reducible first | exact HB.out | apply below_alloc | apply pw_below_drewN | apply below_drew1 | refine below_set ?_ GE1680.out | refine below_set ?_ GE1684.out | refine below_set ?_ GE1688.out) | exact HB.out)) hb); clear HO_3; clear BK1680; clear BK1684; clear BK1688; clear HB; have HO_3 := n0_; have BK1680 := n1_; have BK1684 := n2_; have BK1688 := n3_; have HB := n4_; clear n0_ n1_ n2_ n3_ n4_; (try clear hb); (try clear hb2); (try clear hk); (try clear hi)) | (go_at_call 60; (with_reducible refine (impl_RateAt.calls kj13 _ _ t1673 t1674 t1690 _ ?side1 ?side2 A28.out).mono ?_); (case side1 => repeat (first | exact (Kd.R_reads' HO_3.out).2.2 | (with_reducible refine Kd.C_alloc ?_ _) | (with_reducible refine Kd.C_drewN ?_ _) | (with_reducible refine Kd.C_drew ?_))); (case side2 => exact (Kd.R_reads' HO_3.out).2.1); rintro e w38 ⟨rfl, hb⟩; have n0_ := Aside0.mk (Kd.R_below (by (with_reducible repeat (first | apply Kd.R_alloc | apply Kd.R_drewN | apply Kd.R_drew)); exact HO_3.out) hb); have n1_ := Aside0.mk (blk_below (g := gb1680) (o := .cells #[.int .i64 t1677, .int .i64 t1678] 95 (0, 0)) (by (with_reducible repeat (first | refine blk_drewN ?_ _ | refine blk_drew ?_ | refine blk_alloc ?_ _)); exact BK1680.out) hb); have n2_ := Aside0.mk (blk_below (g := gb1684) (o := .cells #[.int .i64 t1681, .int .i64 t1682] 95 (0, 0)) (by (with_reducible repeat (first | refine blk_drewN ?_ _ | refine blk_drew ?_ | refine blk_alloc ?_ _)); exact BK1684.out) hb); have n3_ := Aside0.mk (blk_below (g := gb1688) (o := .cells #[.int .i64 t1685, .int .i64 t1686] 95 (0, 0)) (by (with_reducible repeat (first | refine blk_drewN ?_ _ | refine blk_drew ?_ | refine blk_alloc ?_ _)); exact BK1688.out) hb); have n4_ := Aside0.mk (below_step (by repeat (first | (with_reducible first | exact HB.out | apply below_alloc | apply pw_below_drewN | apply below_drew1 | refine below_set ?_ GE1680.out | refine below_set ?_ GE1684.out | refine below_set ?_ GE1688.out) | exact HB.out)) hb); clear HO_3; clear BK1680; clear BK1684; clear BK1688; clear HB; have HO_3 := n0_; have BK1680 := n1_; have BK1684 := n2_; have BK1688 := n3_; have HB := n4_; clear n0_ n1_ n2_ n3_ n4_; (try clear hb); (try clear hb2); (try clear hk); (try clear hi)))
          go_ret
          exact ⟨by first | rfl | (simp [errW_none, errW_some] <;> rfl) | (simp [*, errW_none, errW_some] <;> rfl), by repeat (first | (with_reducible first | exact HB.out | apply below_alloc | apply pw_below_drewN | apply below_drew1 | refine below_set ?_ GE1680.out | refine below_set ?_ GE1684.out | refine below_set ?_ GE1688.out) | exact HB.out)⟩
         ·
          rw [if_neg c29] at H
          have c29b0 : decide (t1690 < 20) = false := decide_eq_false c29
          clear c29
          have H' := Aside0.mk H
          clear H
          go_wp2_with (first | ((with_reducible refine gate_callee (f := 57) rfl ?_); refine goesL_ (some 50) rfl rfl Try.func57 (by kernel_rfl) rfl #[.slice Ao8 t1673.length co8, .int .i64 (wrap64 (t1674 + 1))] rfl (by (try simp only [List.map_toArray, List.map_cons, List.map_nil]); first | done | rfl | (simp only [List.length_drop, List.length_take]; rfl)) ?_; (with_reducible refine (impl_TimeOf.calls kj13 _ _ t1673 (wrap64 (t1674 + 1)) t1685 t1686 true _ ?side1 ?side2 A24.out).mono ?_); (case side1 => repeat (first | exact (Kd.R_reads' HO_3.out).2.2 | (with_reducible refine Kd.C_alloc ?_ _) | (with_reducible refine Kd.C_drewN ?_ _) | (with_reducible refine Kd.C_drew ?_))); (case side2 => exact (Kd.R_reads' HO_3.out).2.1); rintro e w39 ⟨rfl, hb⟩; refine ⟨_, rfl, ?_⟩; have n0_ := Aside0.mk (Kd.R_below (by (with_reducible repeat (first | apply Kd.R_alloc | apply Kd.R_drewN | apply Kd.R_drew)); exact HO_3.out) hb); have n1_ := Aside0.mk (blk_below (g := gb1680) (o := .cells #[.int .i64 t1677, .int .i64 t1678] 95 (0, 0)) (by (with_reducible repeat (first | refine blk_drewN ?_ _ | refine blk_drew ?_ | refine blk_alloc ?_ _)); exact BK1680.out) hb); have n2_ := Aside0.mk (blk_below (g := gb1684) (o := .cells #[.int .i64 t1681, .int .i64 t1682] 95 (0, 0)) (by (with_reducible repeat (first | refine blk_drewN ?_ _ | refine blk_drew ?_ | refine blk_alloc ?_ _)); exact BK1684.out) hb); have n3_ := Aside0.mk (below_step (by repeat (first | (with_reducible first | exact HB.out | apply below_alloc | apply pw_below_drewN | apply below_drew1 | refine below_set ?_ GE1680.out | refine below_set ?_ GE1684.out) | exact HB.out)) hb); clear HO_3; clear BK1680; clear BK1684; clear HB; have HO_3 := n0_; have BK1680 := n1_; have BK1684 := n2_; have HB := n3_; clear n0_ n1_ n2_ n3_; (try clear hb); (try clear hb2); (try clear hk); (try clear hi)) | ((with_reducible refine gate_dst (N := 9) rfl ?_); refine box_event ?hg (N := 9) ?hd (cs := #[.int .i64 0, .int .i64 0]) (t := 95) ?hr ?_; (case hd => rfl); (case hg => rfl); (case hr => first | (go_simp; done) | (go_simp; rfl)); intro gb1688 hg w40 hbox hb; have n0_ := Aside0.mk (Kd.R_below (by (with_reducible repeat (first | apply Kd.R_alloc | apply Kd.R_drewN | apply Kd.R_drew)); exact HO_3.out) hb); have n1_ := Aside0.mk (blk_below (g := gb1680) (o := .cells #[.int .i64 t1677, .int .i64 t1678] 95 (0, 0)) (by (with_reducible repeat (first | refine blk_drewN ?_ _ | refine blk_drew ?_ | refine blk_alloc ?_ _)); exact BK1680.out) hb); have n2_ := Aside0.mk (blk_below (g := gb1684) (o := .cells #[.int .i64 t1681, .int .i64 t1682] 95 (0, 0)) (by (with_reducible repeat (first | refine blk_drewN ?_ _ | refine blk_drew ?_ | refine blk_alloc ?_ _)); exact BK1684.out) hb); have n3_ := Aside0.mk (below_step (by repeat (first | (with_reducible first | exact HB.out | apply below_alloc | apply pw_below_drewN | apply below_drew1 | refine below_set ?_ GE1680.out | refine below_set ?_ GE1684.out) | exact HB.out)) hb); have n4_ := Aside0.mk (hbox); have n5_ := Aside0.mk ((by rw [hg]; exact (below_size (by repeat (first | (with_reducible first | exact HB.out | apply below_alloc | apply pw_below_drewN | apply below_drew1 | refine below_set ?_ GE1680.out | refine below_set ?_ GE1684.out) | exact HB.out))) : w.heap.size ≤ gb1688)); have n6_ := Aside0.mk ((by rw [hg]; exact (below_size (by repeat (first | (with_reducible first | exact HB.out | apply below_alloc | apply pw_below_drewN | apply below_drew1 | refine below_set ?_ GE1680.out | refine below_set ?_ GE1684.out) | exact HB.out))) : w.heap.size ≤ gb1688)); have n7_ := Aside0.mk ((by rw [hg]; exact Nat.ne_of_lt (blk_lt (g := gb1680) (o := .cells #[.int .i64 t1677, .int .i64 t1678] 95 (0, 0)) (by (with_reducible repeat (first | refine blk_drewN ?_ _ | refine blk_drew ?_ | refine blk_alloc ?_ _)); exact BK1680.out)) : gb1680 ≠ gb1688)); have n8_ := Aside0.mk ((by rw [hg]; exact Nat.ne_of_gt (blk_lt (g := gb1680) (o := .cells #[.int .i64 t1677, .int .i64 t1678] 95 (0, 0)) (by (with_reducible repeat (first | refine blk_drewN ?_ _ | refine blk_drew ?_ | refine blk_alloc ?_ _)); exact BK1680.out)) : gb1688 ≠ gb1680)); have n9_ := Aside0.mk ((by rw [hg]; exact Nat.ne_of_lt (blk_lt (g := gb1684) (o := .cells #[.int .i64 t1681, .int .i64 t1682] 95 (0, 0)) (by (with_reducible repeat (first | refine blk_drewN ?_ _ | refine blk_drew ?_ | refine blk_alloc ?_ _)); exact BK1684.out)) : gb1684 ≠ gb1688)); have n10_ := Aside0.mk ((by rw [hg]; exact Nat.ne_of_gt (blk_lt (g := gb1684) (o := .cells #[.int .i64 t1681, .int .i64 t1682] 95 (0, 0)) (by (with_reducible repeat (first | refine blk_drewN ?_ _ | refine blk_drew ?_ | refine blk_alloc ?_ _)); exact BK1684.out)) : gb1688 ≠ gb1684)); clear HO_3; clear BK1680; clear BK1684; clear HB; have HO_3 := n0_; have BK1680 := n1_; have BK1684 := n2_; have HB := n3_; have BK1688 := n4_; have GW1688 := n5_; have GE1688 := n6_; have NB1680_1688 := n7_; have NB1688_1680 := n8_; have NB1684_1688 := n9_; have NB1688_1684 := n10_; clear n0_ n1_ n2_ n3_ n4_ n5_ n6_ n7_ n8_ n9_ n10_; clear hb hbox hg; have hnb41 := NB1688_1680.out; have hnc41 := NB1680_1688.out; have hnb42 := NB1688_1684.out; have hnc42 := NB1684_1688.out; have hcz43_0 : w40.cell? ⟨gb1688, 0, none⟩ = some (.int .i64 0) := (blk_cell BK1688.out 0).trans rfl; have hcz43_1 : w40.cell? ⟨gb1688, 1, none⟩ = some (.int .i64 0) := (blk_cell BK1688.out 1).trans rfl; have hfz43_0 := blk_frozen BK1688.out 0; have hfz43_1 := blk_frozen BK1688.out 1; have hnb44 := NB1680_1684.out; have hnc44 := NB1684_1680.out; have hcz45_0 : w40.cell? ⟨gb1680, 0, none⟩ = some (.int .i64 t1677) := (blk_cell BK1680.out 0).trans rfl; have hcz45_1 : w40.cell? ⟨gb1680, 1, none⟩ = some (.int .i64 t1678) := (blk_cell BK1680.out 1).trans rfl; have hfz45_0 := blk_frozen BK1680.out 0; have hfz45_1 := blk_frozen BK1680.out 1) | (go_at_call 59; (with_reducible refine (impl_LessRatio.calls kj13 t1677 t1678 t1685 t1686 true _ A26.out).mono ?_); rintro e w46 ⟨rfl, hb⟩; have n0_ := Aside0.mk (Kd.R_below (by (with_reducible repeat (first | apply Kd.R_alloc | apply Kd.R_drewN | apply Kd.R_drew)); exact (Kd.R_mono (Kd.R_far (p := ⟨gb1688, 1, none⟩) (Kd.R_far (p := ⟨gb1688, 0, none⟩) (Kd.R_types HO_3.out BK1688.out (by decide)) (fun _ hk => hk.2) (.int .i64 t1685)) (fun _ hk => hk.2) (.int .i64 t1686)) (fun _ h_ => h_.1))) hb); have n1_ := Aside0.mk (blk_below (g := gb1680) (o := .cells #[.int .i64 t1677, .int .i64 t1678] 95 (0, 0)) (by (with_reducible repeat (first | refine blk_drewN ?_ _ | refine blk_drew ?_ | refine blk_alloc ?_ _)); refine blk_far ?_ NB1680_1688.out _; (with_reducible repeat (first | refine blk_drewN ?_ _ | refine blk_drew ?_ | refine blk_alloc ?_ _)); refine blk_far ?_ NB1680_1688.out _; (with_reducible repeat (first | refine blk_drewN ?_ _ | refine blk_drew ?_ | refine blk_alloc ?_ _)); exact BK1680.out) hb); have n2_ := Aside0.mk (blk_below (g := gb1684) (o := .cells #[.int .i64 t1681, .int .i64 t1682] 95 (0, 0)) (by (with_reducible repeat (first | refine blk_drewN ?_ _ | refine blk_drew ?_ | refine blk_alloc ?_ _)); refine blk_far ?_ NB1684_1688.out _; (with_reducible repeat (first | refine blk_drewN ?_ _ | refine blk_drew ?_ | refine blk_alloc ?_ _)); refine blk_far ?_ NB1684_1688.out _; (with_reducible repeat (first | refine blk_drewN ?_ _ | refine blk_drew ?_ | refine blk_alloc ?_ _)); exact BK1684.out) hb); have n3_ := Aside0.mk (blk_below (g := gb1688) (o := .cells #[.int .i64 t1685, .int .i64 t1686] 95 (0, 0)) (by (with_reducible repeat (first | refine blk_drewN ?_ _ | refine blk_drew ?_ | refine blk_alloc ?_ _)); refine blk_put (cs := #[.int .i64 t1685, .int .i64 0]) ?_ 1 _ rfl; (with_reducible repeat (first | refine blk_drewN ?_ _ | refine blk_drew ?_ | refine blk_alloc ?_ _)); refine blk_put (cs := #[.int .i64 0, .int .i64 0]) ?_ 0 _ rfl; (with_reducible repeat (first | refine blk_drewN ?_ _ | refine blk_drew ?_ | refine blk_alloc ?_ _)); exact BK1688.out) hb); have n4_ := Aside0.mk (below_step (by repeat (first | (with_reducible first | exact HB.out | apply below_alloc | apply pw_below_drewN | apply below_drew1 | refine below_set ?_ GE1680.out | refine below_set ?_ GE1684.out | refine below_set ?_ GE1688.out) | exact HB.out)) hb); clear HO_3; clear BK1680; clear BK1684; clear BK1688; clear HB; have HO_3 := n0_; have BK1680 := n1_; have BK1684 := n2_; have BK1688 := n3_; have HB := n4_; clear n0_ n1_ n2_ n3_ n4_; (try clear hb); (try clear hb2); (try clear hk); (try clear hi)) | (go_at_call 60; (with_reducible refine (impl_RateAt.calls kj13 _ _ t1673 t1674 t1690 _ ?side1 ?side2 A28.out).mono ?_); (case side1 => repeat (first | exact (Kd.R_reads' HO_3.out).2.2 | (with_reducible refine Kd.C_alloc ?_ _) | (with_reducible refine Kd.C_drewN ?_ _) | (with_reducible refine Kd.C_drew ?_))); (case side2 => exact (Kd.R_reads' HO_3.out).2.1); rintro e w47 ⟨rfl, hb⟩; have n0_ := Aside0.mk (Kd.R_below (by (with_reducible repeat (first | apply Kd.R_alloc | apply Kd.R_drewN | apply Kd.R_drew)); exact HO_3.out) hb); have n1_ := Aside0.mk (blk_below (g := gb1680) (o := .cells #[.int .i64 t1677, .int .i64 t1678] 95 (0, 0)) (by (with_reducible repeat (first | refine blk_drewN ?_ _ | refine blk_drew ?_ | refine blk_alloc ?_ _)); exact BK1680.out) hb); have n2_ := Aside0.mk (blk_below (g := gb1684) (o := .cells #[.int .i64 t1681, .int .i64 t1682] 95 (0, 0)) (by (with_reducible repeat (first | refine blk_drewN ?_ _ | refine blk_drew ?_ | refine blk_alloc ?_ _)); exact BK1684.out) hb); have n3_ := Aside0.mk (blk_below (g := gb1688) (o := .cells #[.int .i64 t1685, .int .i64 t1686] 95 (0, 0)) (by (with_reducible repeat (first | refine blk_drewN ?_ _ | refine blk_drew ?_ | refine blk_alloc ?_ _)); exact BK1688.out) hb); have n4_ := Aside0.mk (below_step (by repeat (first | (with_reducible first | exact HB.out | apply below_alloc | apply pw_below_drewN | apply below_drew1 | refine below_set ?_ GE1680.out | refine below_set ?_ GE1684.out | refine below_set ?_ GE1688.out) | exact HB.out)) hb); clear HO_3; clear BK1680; clear BK1684; clear BK1688; clear HB; have HO_3 := n0_; have BK1680 := n1_; have BK1684 := n2_; have BK1688 := n3_; have HB := n4_; clear n0_ n1_ n2_ n3_ n4_; (try clear hb); (try clear hb2); (try clear hk); (try clear hi)))
          go_meet
          case rel => exact ⟨_, H', ⟨by have := HJ13.out; first | omega | exact Nat.le_refl _⟩, ⟨by (with_reducible repeat (first | refine blk_drewN ?_ _ | refine blk_drew ?_ | refine blk_alloc ?_ _)); exact BK1680.out⟩, ⟨by repeat (first | (with_reducible first | exact HB.out | apply below_alloc | apply pw_below_drewN | apply below_drew1 | refine below_set ?_ GE1680.out | refine below_set ?_ GE1684.out | refine below_set ?_ GE1688.out) | exact HB.out)⟩⟩
        ·
         replace c27 := Bool.eq_false_iff.mpr c27
         subst c27
         rw [if_neg (show ¬ (false = true) by decide)] at H
         obtain rfl := Option.some.inj H
         go_wp2_with (first | ((with_reducible refine gate_callee (f := 57) rfl ?_); refine goesL_ (some 50) rfl rfl Try.func57 (by kernel_rfl) rfl #[.slice Ao8 t1673.length co8, .int .i64 (wrap64 (t1674 + 1))] rfl (by (try simp only [List.map_toArray, List.map_cons, List.map_nil]); first | done | rfl | (simp only [List.length_drop, List.length_take]; rfl)) ?_; (with_reducible refine (impl_TimeOf.calls kj13 _ _ t1673 (wrap64 (t1674 + 1)) t1685 t1686 true _ ?side1 ?side2 A24.out).mono ?_); (case side1 => repeat (first | exact (Kd.R_reads' HO_3.out).2.2 | (with_reducible refine Kd.C_alloc ?_ _) | (with_reducible refine Kd.C_drewN ?_ _) | (with_reducible refine Kd.C_drew ?_))); (case side2 => exact (Kd.R_reads' HO_3.out).2.1); rintro e w48 ⟨rfl, hb⟩; refine ⟨_, rfl, ?_⟩; have n0_ := Aside0.mk (Kd.R_below (by (with_reducible repeat (first | apply Kd.R_alloc | apply Kd.R_drewN | apply Kd.R_drew)); exact HO_3.out) hb); have n1_ := Aside0.mk (blk_below (g := gb1680) (o := .cells #[.int .i64 t1677, .int .i64 t1678] 95 (0, 0)) (by (with_reducible repeat (first | refine blk_drewN ?_ _ | refine blk_drew ?_ | refine blk_alloc ?_ _)); exact BK1680.out) hb); have n2_ := Aside0.mk (blk_below (g := gb1684) (o := .cells #[.int .i64 t1681, .int .i64 t1682] 95 (0, 0)) (by (with_reducible repeat (first | refine blk_drewN ?_ _ | refine blk_drew ?_ | refine blk_alloc ?_ _)); exact BK1684.out) hb); have n3_ := Aside0.mk (below_step (by repeat (first | (with_reducible first | exact HB.out | apply below_alloc | apply pw_below_drewN | apply below_drew1 | refine below_set ?_ GE1680.out | refine below_set ?_ GE1684.out) | exact HB.out)) hb); clear HO_3; clear BK1680; clear BK1684; clear HB; have HO_3 := n0_; have BK1680 := n1_; have BK1684 := n2_; have HB := n3_; clear n0_ n1_ n2_ n3_; (try clear hb); (try clear hb2); (try clear hk); (try clear hi)) | ((with_reducible refine gate_dst (N := 9) rfl ?_); refine box_event ?hg (N := 9) ?hd (cs := #[.int .i64 0, .int .i64 0]) (t := 95) ?hr ?_; (case hd => rfl); (case hg => rfl); (case hr => first | (go_simp; done) | (go_simp; rfl)); intro gb1688 hg w49 hbox hb; have n0_ := Aside0.mk (Kd.R_below (by (with_reducible repeat (first | apply Kd.R_alloc | apply Kd.R_drewN | apply Kd.R_drew)); exact HO_3.out) hb); have n1_ := Aside0.mk (blk_below (g := gb1680) (o := .cells #[.int .i64 t1677, .int .i64 t1678] 95 (0, 0)) (by (with_reducible repeat (first | refine blk_drewN ?_ _ | refine blk_drew ?_ | refine blk_alloc ?_ _)); exact BK1680.out) hb); have n2_ := Aside0.mk (blk_below (g := gb1684) (o := .cells #[.int .i64 t1681, .int .i64 t1682] 95 (0, 0)) (by (with_reducible repeat (first | refine blk_drewN ?_ _ | refine blk_drew ?_ | refine blk_alloc ?_ _)); exact BK1684.out) hb); have n3_ := Aside0.mk (below_step (by repeat (first | (with_reducible first | exact HB.out | apply below_alloc | apply pw_below_drewN | apply below_drew1 | refine below_set ?_ GE1680.out | refine below_set ?_ GE1684.out) | exact HB.out)) hb); have n4_ := Aside0.mk (hbox); have n5_ := Aside0.mk ((by rw [hg]; exact (below_size (by repeat (first | (with_reducible first | exact HB.out | apply below_alloc | apply pw_below_drewN | apply below_drew1 | refine below_set ?_ GE1680.out | refine below_set ?_ GE1684.out) | exact HB.out))) : w.heap.size ≤ gb1688)); have n6_ := Aside0.mk ((by rw [hg]; exact (below_size (by repeat (first | (with_reducible first | exact HB.out | apply below_alloc | apply pw_below_drewN | apply below_drew1 | refine below_set ?_ GE1680.out | refine below_set ?_ GE1684.out) | exact HB.out))) : w.heap.size ≤ gb1688)); have n7_ := Aside0.mk ((by rw [hg]; exact Nat.ne_of_lt (blk_lt (g := gb1680) (o := .cells #[.int .i64 t1677, .int .i64 t1678] 95 (0, 0)) (by (with_reducible repeat (first | refine blk_drewN ?_ _ | refine blk_drew ?_ | refine blk_alloc ?_ _)); exact BK1680.out)) : gb1680 ≠ gb1688)); have n8_ := Aside0.mk ((by rw [hg]; exact Nat.ne_of_gt (blk_lt (g := gb1680) (o := .cells #[.int .i64 t1677, .int .i64 t1678] 95 (0, 0)) (by (with_reducible repeat (first | refine blk_drewN ?_ _ | refine blk_drew ?_ | refine blk_alloc ?_ _)); exact BK1680.out)) : gb1688 ≠ gb1680)); have n9_ := Aside0.mk ((by rw [hg]; exact Nat.ne_of_lt (blk_lt (g := gb1684) (o := .cells #[.int .i64 t1681, .int .i64 t1682] 95 (0, 0)) (by (with_reducible repeat (first | refine blk_drewN ?_ _ | refine blk_drew ?_ | refine blk_alloc ?_ _)); exact BK1684.out)) : gb1684 ≠ gb1688)); have n10_ := Aside0.mk ((by rw [hg]; exact Nat.ne_of_gt (blk_lt (g := gb1684) (o := .cells #[.int .i64 t1681, .int .i64 t1682] 95 (0, 0)) (by (with_reducible repeat (first | refine blk_drewN ?_ _ | refine blk_drew ?_ | refine blk_alloc ?_ _)); exact BK1684.out)) : gb1688 ≠ gb1684)); clear HO_3; clear BK1680; clear BK1684; clear HB; have HO_3 := n0_; have BK1680 := n1_; have BK1684 := n2_; have HB := n3_; have BK1688 := n4_; have GW1688 := n5_; have GE1688 := n6_; have NB1680_1688 := n7_; have NB1688_1680 := n8_; have NB1684_1688 := n9_; have NB1688_1684 := n10_; clear n0_ n1_ n2_ n3_ n4_ n5_ n6_ n7_ n8_ n9_ n10_; clear hb hbox hg; have hnb50 := NB1688_1680.out; have hnc50 := NB1680_1688.out; have hnb51 := NB1688_1684.out; have hnc51 := NB1684_1688.out; have hcz52_0 : w49.cell? ⟨gb1688, 0, none⟩ = some (.int .i64 0) := (blk_cell BK1688.out 0).trans rfl; have hcz52_1 : w49.cell? ⟨gb1688, 1, none⟩ = some (.int .i64 0) := (blk_cell BK1688.out 1).trans rfl; have hfz52_0 := blk_frozen BK1688.out 0; have hfz52_1 := blk_frozen BK1688.out 1; have hnb53 := NB1680_1684.out; have hnc53 := NB1684_1680.out; have hcz54_0 : w49.cell? ⟨gb1680, 0, none⟩ = some (.int .i64 t1677) := (blk_cell BK1680.out 0).trans rfl; have hcz54_1 : w49.cell? ⟨gb1680, 1, none⟩ = some (.int .i64 t1678) := (blk_cell BK1680.out 1).trans rfl; have hfz54_0 := blk_frozen BK1680.out 0; have hfz54_1 := blk_frozen BK1680.out 1) | (go_at_call 59; (with_reducible refine (impl_LessRatio.calls kj13 t1677 t1678 t1685 t1686 false _ A26.out).mono ?_); rintro e w55 ⟨rfl, hb⟩; have n0_ := Aside0.mk (Kd.R_below (by (with_reducible repeat (first | apply Kd.R_alloc | apply Kd.R_drewN | apply Kd.R_drew)); exact (Kd.R_mono (Kd.R_far (p := ⟨gb1688, 1, none⟩) (Kd.R_far (p := ⟨gb1688, 0, none⟩) (Kd.R_types HO_3.out BK1688.out (by decide)) (fun _ hk => hk.2) (.int .i64 t1685)) (fun _ hk => hk.2) (.int .i64 t1686)) (fun _ h_ => h_.1))) hb); have n1_ := Aside0.mk (blk_below (g := gb1680) (o := .cells #[.int .i64 t1677, .int .i64 t1678] 95 (0, 0)) (by (with_reducible repeat (first | refine blk_drewN ?_ _ | refine blk_drew ?_ | refine blk_alloc ?_ _)); refine blk_far ?_ NB1680_1688.out _; (with_reducible repeat (first | refine blk_drewN ?_ _ | refine blk_drew ?_ | refine blk_alloc ?_ _)); refine blk_far ?_ NB1680_1688.out _; (with_reducible repeat (first | refine blk_drewN ?_ _ | refine blk_drew ?_ | refine blk_alloc ?_ _)); exact BK1680.out) hb); have n2_ := Aside0.mk (blk_below (g := gb1684) (o := .cells #[.int .i64 t1681, .int .i64 t1682] 95 (0, 0)) (by (with_reducible repeat (first | refine blk_drewN ?_ _ | refine blk_drew ?_ | refine blk_alloc ?_ _)); refine blk_far ?_ NB1684_1688.out _; (with_reducible repeat (first | refine blk_drewN ?_ _ | refine blk_drew ?_ | refine blk_alloc ?_ _)); refine blk_far ?_ NB1684_1688.out _; (with_reducible repeat (first | refine blk_drewN ?_ _ | refine blk_drew ?_ | refine blk_alloc ?_ _)); exact BK1684.out) hb); have n3_ := Aside0.mk (blk_below (g := gb1688) (o := .cells #[.int .i64 t1685, .int .i64 t1686] 95 (0, 0)) (by (with_reducible repeat (first | refine blk_drewN ?_ _ | refine blk_drew ?_ | refine blk_alloc ?_ _)); refine blk_put (cs := #[.int .i64 t1685, .int .i64 0]) ?_ 1 _ rfl; (with_reducible repeat (first | refine blk_drewN ?_ _ | refine blk_drew ?_ | refine blk_alloc ?_ _)); refine blk_put (cs := #[.int .i64 0, .int .i64 0]) ?_ 0 _ rfl; (with_reducible repeat (first | refine blk_drewN ?_ _ | refine blk_drew ?_ | refine blk_alloc ?_ _)); exact BK1688.out) hb); have n4_ := Aside0.mk (below_step (by repeat (first | (with_reducible first | exact HB.out | apply below_alloc | apply pw_below_drewN | apply below_drew1 | refine below_set ?_ GE1680.out | refine below_set ?_ GE1684.out | refine below_set ?_ GE1688.out) | exact HB.out)) hb); clear HO_3; clear BK1680; clear BK1684; clear BK1688; clear HB; have HO_3 := n0_; have BK1680 := n1_; have BK1684 := n2_; have BK1688 := n3_; have HB := n4_; clear n0_ n1_ n2_ n3_ n4_; (try clear hb); (try clear hb2); (try clear hk); (try clear hi)))
         go_ret
         exact ⟨by first | rfl | (simp [errW_none, errW_some] <;> rfl) | (simp [*, errW_none, errW_some] <;> rfl), by repeat (first | (with_reducible first | exact HB.out | apply below_alloc | apply pw_below_drewN | apply below_drew1 | refine below_set ?_ GE1680.out | refine below_set ?_ GE1684.out | refine below_set ?_ GE1688.out) | exact HB.out)⟩
       ·
        replace c25 := Bool.eq_false_iff.mpr c25
        subst c25
        rw [if_neg (show ¬ (false = true) by decide)] at H
        replace H := Option.bind_eq_some_iff.mp H
        obtain ⟨t1691, A560, H⟩ := H
        try dsimp only at H
        have A56 := Aside0.mk A560
        clear A560
        by_cases c57 : t1691 < 20
        ·
         rw [if_pos c57] at H
         have c57b0 : decide (t1691 < 20) = true := decide_eq_true c57
         clear c57
         obtain rfl := Option.some.inj H
         go_wp2_with (first | ((with_reducible refine gate_callee (f := 57) rfl ?_); refine goesL_ (some 50) rfl rfl Try.func57 (by kernel_rfl) rfl #[.slice Ao8 t1673.length co8, .int .i64 (wrap64 (t1674 + 1))] rfl (by (try simp only [List.map_toArray, List.map_cons, List.map_nil]); first | done | rfl | (simp only [List.length_drop, List.length_take]; rfl)) ?_; (with_reducible refine (impl_TimeOf.calls kj13 _ _ t1673 (wrap64 (t1674 + 1)) t1685 t1686 false _ ?side1 ?side2 A24.out).mono ?_); (case side1 => repeat (first | exact (Kd.R_reads' HO_3.out).2.2 | (with_reducible refine Kd.C_alloc ?_ _) | (with_reducible refine Kd.C_drewN ?_ _) | (with_reducible refine Kd.C_drew ?_))); (case side2 => exact (Kd.R_reads' HO_3.out).2.1); rintro e w58 ⟨rfl, hb⟩; refine ⟨_, rfl, ?_⟩; have n0_ := Aside0.mk (Kd.R_below (by (with_reducible repeat (first | apply Kd.R_alloc | apply Kd.R_drewN | apply Kd.R_drew)); exact HO_3.out) hb); have n1_ := Aside0.mk (blk_below (g := gb1680) (o := .cells #[.int .i64 t1677, .int .i64 t1678] 95 (0, 0)) (by (with_reducible repeat (first | refine blk_drewN ?_ _ | refine blk_drew ?_ | refine blk_alloc ?_ _)); exact BK1680.out) hb); have n2_ := Aside0.mk (blk_below (g := gb1684) (o := .cells #[.int .i64 t1681, .int .i64 t1682] 95 (0, 0)) (by (with_reducible repeat (first | refine blk_drewN ?_ _ | refine blk_drew ?_ | refine blk_alloc ?_ _)); exact BK1684.out) hb); have n3_ := Aside0.mk (below_step (by repeat (first | (with_reducible first | exact HB.out | apply below_alloc | apply pw_below_drewN | apply below_drew1 | refine below_set ?_ GE1680.out | refine below_set ?_ GE1684.out) | exact HB.out)) hb); clear HO_3; clear BK1680; clear BK1684; clear HB; have HO_3 := n0_; have BK1680 := n1_; have BK1684 := n2_; have HB := n3_; clear n0_ n1_ n2_ n3_; (try clear hb); (try clear hb2); (try clear hk); (try clear hi)) | ((with_reducible refine gate_dst (N := 9) rfl ?_); refine box_event ?hg (N := 9) ?hd (cs := #[.int .i64 0, .int .i64 0]) (t := 95) ?hr ?_; (case hd => rfl); (case hg => rfl); (case hr => first | (go_simp; done) | (go_simp; rfl)); intro gb1688 hg w59 hbox hb; have n0_ := Aside0.mk (Kd.R_below (by (with_reducible repeat (first | apply Kd.R_alloc | apply Kd.R_drewN | apply Kd.R_drew)); exact HO_3.out) hb); have n1_ := Aside0.mk (blk_below (g := gb1680) (o := .cells #[.int .i64 t1677, .int .i64 t1678] 95 (0, 0)) (by (with_reducible repeat (first | refine blk_drewN ?_ _ | refine blk_drew ?_ | refine blk_alloc ?_ _)); exact BK1680.out) hb); have n2_ := Aside0.mk (blk_below (g := gb1684) (o := .cells #[.int .i64 t1681, .int .i64 t1682] 95 (0, 0)) (by (with_reducible repeat (first | refine blk_drewN ?_ _ | refine blk_drew ?_ | refine blk_alloc ?_ _)); exact BK1684.out) hb); have n3_ := Aside0.mk (below_step (by repeat (first | (with_reducible first | exact HB.out | apply below_alloc | apply pw_below_drewN | apply below_drew1 | refine below_set ?_ GE1680.out | refine below_set ?_ GE1684.out) | exact HB.out)) hb); have n4_ := Aside0.mk (hbox); have n5_ := Aside0.mk ((by rw [hg]; exact (below_size (by repeat (first | (with_reducible first | exact HB.out | apply below_alloc | apply pw_below_drewN | apply below_drew1 | refine below_set ?_ GE1680.out | refine below_set ?_ GE1684.out) | exact HB.out))) : w.heap.size ≤ gb1688)); have n6_ := Aside0.mk ((by rw [hg]; exact (below_size (by repeat (first | (with_reducible first | exact HB.out | apply below_alloc | apply pw_below_drewN | apply below_drew1 | refine below_set ?_ GE1680.out | refine below_set ?_ GE1684.out) | exact HB.out))) : w.heap.size ≤ gb1688)); have n7_ := Aside0.mk ((by rw [hg]; exact Nat.ne_of_lt (blk_lt (g := gb1680) (o := .cells #[.int .i64 t1677, .int .i64 t1678] 95 (0, 0)) (by (with_reducible repeat (first | refine blk_drewN ?_ _ | refine blk_drew ?_ | refine blk_alloc ?_ _)); exact BK1680.out)) : gb1680 ≠ gb1688)); have n8_ := Aside0.mk ((by rw [hg]; exact Nat.ne_of_gt (blk_lt (g := gb1680) (o := .cells #[.int .i64 t1677, .int .i64 t1678] 95 (0, 0)) (by (with_reducible repeat (first | refine blk_drewN ?_ _ | refine blk_drew ?_ | refine blk_alloc ?_ _)); exact BK1680.out)) : gb1688 ≠ gb1680)); have n9_ := Aside0.mk ((by rw [hg]; exact Nat.ne_of_lt (blk_lt (g := gb1684) (o := .cells #[.int .i64 t1681, .int .i64 t1682] 95 (0, 0)) (by (with_reducible repeat (first | refine blk_drewN ?_ _ | refine blk_drew ?_ | refine blk_alloc ?_ _)); exact BK1684.out)) : gb1684 ≠ gb1688)); have n10_ := Aside0.mk ((by rw [hg]; exact Nat.ne_of_gt (blk_lt (g := gb1684) (o := .cells #[.int .i64 t1681, .int .i64 t1682] 95 (0, 0)) (by (with_reducible repeat (first | refine blk_drewN ?_ _ | refine blk_drew ?_ | refine blk_alloc ?_ _)); exact BK1684.out)) : gb1688 ≠ gb1684)); clear HO_3; clear BK1680; clear BK1684; clear HB; have HO_3 := n0_; have BK1680 := n1_; have BK1684 := n2_; have HB := n3_; have BK1688 := n4_; have GW1688 := n5_; have GE1688 := n6_; have NB1680_1688 := n7_; have NB1688_1680 := n8_; have NB1684_1688 := n9_; have NB1688_1684 := n10_; clear n0_ n1_ n2_ n3_ n4_ n5_ n6_ n7_ n8_ n9_ n10_; clear hb hbox hg; have hnb60 := NB1688_1680.out; have hnc60 := NB1680_1688.out; have hnb61 := NB1688_1684.out; have hnc61 := NB1684_1688.out; have hcz62_0 : w59.cell? ⟨gb1688, 0, none⟩ = some (.int .i64 0) := (blk_cell BK1688.out 0).trans rfl; have hcz62_1 : w59.cell? ⟨gb1688, 1, none⟩ = some (.int .i64 0) := (blk_cell BK1688.out 1).trans rfl; have hfz62_0 := blk_frozen BK1688.out 0; have hfz62_1 := blk_frozen BK1688.out 1) | (go_at_call 60; (with_reducible refine (impl_RateAt.calls kj13 _ _ t1673 t1674 t1691 _ ?side1 ?side2 A56.out).mono ?_); (case side1 => refine (Kd.R_reads' (e := 151) (base := w.heap.size) (ok := fun k_ => True) (n := t1673.length) (c := co8) ?_).2.2; exact (by (with_reducible repeat (first | apply Kd.R_alloc | apply Kd.R_drewN | apply Kd.R_drew)); exact (Kd.R_mono (Kd.R_far (p := ⟨gb1688, 1, none⟩) (Kd.R_far (p := ⟨gb1688, 0, none⟩) (Kd.R_types HO_3.out BK1688.out (by decide)) (fun _ hk => hk.2) (.int .i64 t1685)) (fun _ hk => hk.2) (.int .i64 t1686)) (fun _ h_ => h_.1)))); (case side2 => exact (Kd.R_reads' HO_3.out).2.1); rintro e w63 ⟨rfl, hb⟩; have n0_ := Aside0.mk (Kd.R_below (by (with_reducible repeat (first | apply Kd.R_alloc | apply Kd.R_drewN | apply Kd.R_drew)); exact (Kd.R_mono (Kd.R_far (p := ⟨gb1688, 1, none⟩) (Kd.R_far (p := ⟨gb1688, 0, none⟩) (Kd.R_types HO_3.out BK1688.out (by decide)) (fun _ hk => hk.2) (.int .i64 t1685)) (fun _ hk => hk.2) (.int .i64 t1686)) (fun _ h_ => h_.1))) hb); have n1_ := Aside0.mk (blk_below (g := gb1680) (o := .cells #[.int .i64 t1677, .int .i64 t1678] 95 (0, 0)) (by (with_reducible repeat (first | refine blk_drewN ?_ _ | refine blk_drew ?_ | refine blk_alloc ?_ _)); refine blk_far ?_ NB1680_1688.out _; (with_reducible repeat (first | refine blk_drewN ?_ _ | refine blk_drew ?_ | refine blk_alloc ?_ _)); refine blk_far ?_ NB1680_1688.out _; (with_reducible repeat (first | refine blk_drewN ?_ _ | refine blk_drew ?_ | refine blk_alloc ?_ _)); exact BK1680.out) hb); have n2_ := Aside0.mk (blk_below (g := gb1684) (o := .cells #[.int .i64 t1681, .int .i64 t1682] 95 (0, 0)) (by (with_reducible repeat (first | refine blk_drewN ?_ _ | refine blk_drew ?_ | refine blk_alloc ?_ _)); refine blk_far ?_ NB1684_1688.out _; (with_reducible repeat (first | refine blk_drewN ?_ _ | refine blk_drew ?_ | refine blk_alloc ?_ _)); refine blk_far ?_ NB1684_1688.out _; (with_reducible repeat (first | refine blk_drewN ?_ _ | refine blk_drew ?_ | refine blk_alloc ?_ _)); exact BK1684.out) hb); have n3_ := Aside0.mk (blk_below (g := gb1688) (o := .cells #[.int .i64 t1685, .int .i64 t1686] 95 (0, 0)) (by (with_reducible repeat (first | refine blk_drewN ?_ _ | refine blk_drew ?_ | refine blk_alloc ?_ _)); refine blk_put (cs := #[.int .i64 t1685, .int .i64 0]) ?_ 1 _ rfl; (with_reducible repeat (first | refine blk_drewN ?_ _ | refine blk_drew ?_ | refine blk_alloc ?_ _)); refine blk_put (cs := #[.int .i64 0, .int .i64 0]) ?_ 0 _ rfl; (with_reducible repeat (first | refine blk_drewN ?_ _ | refine blk_drew ?_ | refine blk_alloc ?_ _)); exact BK1688.out) hb); have n4_ := Aside0.mk (below_step (by repeat (first | (with_reducible first | exact HB.out | apply below_alloc | apply pw_below_drewN | apply below_drew1 | refine below_set ?_ GE1680.out | refine below_set ?_ GE1684.out | refine below_set ?_ GE1688.out) | exact HB.out)) hb); clear HO_3; clear BK1680; clear BK1684; clear BK1688; clear HB; have HO_3 := n0_; have BK1680 := n1_; have BK1684 := n2_; have BK1688 := n3_; have HB := n4_; clear n0_ n1_ n2_ n3_ n4_; (try clear hb); (try clear hb2); (try clear hk); (try clear hi)))
         go_ret
         exact ⟨by first | rfl | (simp [errW_none, errW_some] <;> rfl) | (simp [*, errW_none, errW_some] <;> rfl), by repeat (first | (with_reducible first | exact HB.out | apply below_alloc | apply pw_below_drewN | apply below_drew1 | refine below_set ?_ GE1680.out | refine below_set ?_ GE1684.out | refine below_set ?_ GE1688.out) | exact HB.out)⟩
        ·
         rw [if_neg c57] at H
         have c57b0 : decide (t1691 < 20) = false := decide_eq_false c57
         clear c57
         have H' := Aside0.mk H
         clear H
         go_wp2_with (first | ((with_reducible refine gate_callee (f := 57) rfl ?_); refine goesL_ (some 50) rfl rfl Try.func57 (by kernel_rfl) rfl #[.slice Ao8 t1673.length co8, .int .i64 (wrap64 (t1674 + 1))] rfl (by (try simp only [List.map_toArray, List.map_cons, List.map_nil]); first | done | rfl | (simp only [List.length_drop, List.length_take]; rfl)) ?_; (with_reducible refine (impl_TimeOf.calls kj13 _ _ t1673 (wrap64 (t1674 + 1)) t1685 t1686 false _ ?side1 ?side2 A24.out).mono ?_); (case side1 => repeat (first | exact (Kd.R_reads' HO_3.out).2.2 | (with_reducible refine Kd.C_alloc ?_ _) | (with_reducible refine Kd.C_drewN ?_ _) | (with_reducible refine Kd.C_drew ?_))); (case side2 => exact (Kd.R_reads' HO_3.out).2.1); rintro e w64 ⟨rfl, hb⟩; refine ⟨_, rfl, ?_⟩; have n0_ := Aside0.mk (Kd.R_below (by (with_reducible repeat (first | apply Kd.R_alloc | apply Kd.R_drewN | apply Kd.R_drew)); exact HO_3.out) hb); have n1_ := Aside0.mk (blk_below (g := gb1680) (o := .cells #[.int .i64 t1677, .int .i64 t1678] 95 (0, 0)) (by (with_reducible repeat (first | refine blk_drewN ?_ _ | refine blk_drew ?_ | refine blk_alloc ?_ _)); exact BK1680.out) hb); have n2_ := Aside0.mk (blk_below (g := gb1684) (o := .cells #[.int .i64 t1681, .int .i64 t1682] 95 (0, 0)) (by (with_reducible repeat (first | refine blk_drewN ?_ _ | refine blk_drew ?_ | refine blk_alloc ?_ _)); exact BK1684.out) hb); have n3_ := Aside0.mk (below_step (by repeat (first | (with_reducible first | exact HB.out | apply below_alloc | apply pw_below_drewN | apply below_drew1 | refine below_set ?_ GE1680.out | refine below_set ?_ GE1684.out) | exact HB.out)) hb); clear HO_3; clear BK1680; clear BK1684; clear HB; have HO_3 := n0_; have BK1680 := n1_; have BK1684 := n2_; have HB := n3_; clear n0_ n1_ n2_ n3_; (try clear hb); (try clear hb2); (try clear hk); (try clear hi)) | ((with_reducible refine gate_dst (N := 9) rfl ?_); refine box_event ?hg (N := 9) ?hd (cs := #[.int .i64 0, .int .i64 0]) (t := 95) ?hr ?_; (case hd => rfl); (case hg => rfl); (case hr => first | (go_simp; done) | (go_simp; rfl)); intro gb1688 hg w65 hbox hb; have n0_ := Aside0.mk (Kd.R_below (by (with_reducible repeat (first | apply Kd.R_alloc | apply Kd.R_drewN | apply Kd.R_drew)); exact HO_3.out) hb); have n1_ := Aside0.mk (blk_below (g := gb1680) (o := .cells #[.int .i64 t1677, .int .i64 t1678] 95 (0, 0)) (by (with_reducible repeat (first | refine blk_drewN ?_ _ | refine blk_drew ?_ | refine blk_alloc ?_ _)); exact BK1680.out) hb); have n2_ := Aside0.mk (blk_below (g := gb1684) (o := .cells #[.int .i64 t1681, .int .i64 t1682] 95 (0, 0)) (by (with_reducible repeat (first | refine blk_drewN ?_ _ | refine blk_drew ?_ | refine blk_alloc ?_ _)); exact BK1684.out) hb); have n3_ := Aside0.mk (below_step (by repeat (first | (with_reducible first | exact HB.out | apply below_alloc | apply pw_below_drewN | apply below_drew1 | refine below_set ?_ GE1680.out | refine below_set ?_ GE1684.out) | exact HB.out)) hb); have n4_ := Aside0.mk (hbox); have n5_ := Aside0.mk ((by rw [hg]; exact (below_size (by repeat (first | (with_reducible first | exact HB.out | apply below_alloc | apply pw_below_drewN | apply below_drew1 | refine below_set ?_ GE1680.out | refine below_set ?_ GE1684.out) | exact HB.out))) : w.heap.size ≤ gb1688)); have n6_ := Aside0.mk ((by rw [hg]; exact (below_size (by repeat (first | (with_reducible first | exact HB.out | apply below_alloc | apply pw_below_drewN | apply below_drew1 | refine below_set ?_ GE1680.out | refine below_set ?_ GE1684.out) | exact HB.out))) : w.heap.size ≤ gb1688)); have n7_ := Aside0.mk ((by rw [hg]; exact Nat.ne_of_lt (blk_lt (g := gb1680) (o := .cells #[.int .i64 t1677, .int .i64 t1678] 95 (0, 0)) (by (with_reducible repeat (first | refine blk_drewN ?_ _ | refine blk_drew ?_ | refine blk_alloc ?_ _)); exact BK1680.out)) : gb1680 ≠ gb1688)); have n8_ := Aside0.mk ((by rw [hg]; exact Nat.ne_of_gt (blk_lt (g := gb1680) (o := .cells #[.int .i64 t1677, .int .i64 t1678] 95 (0, 0)) (by (with_reducible repeat (first | refine blk_drewN ?_ _ | refine blk_drew ?_ | refine blk_alloc ?_ _)); exact BK1680.out)) : gb1688 ≠ gb1680)); have n9_ := Aside0.mk ((by rw [hg]; exact Nat.ne_of_lt (blk_lt (g := gb1684) (o := .cells #[.int .i64 t1681, .int .i64 t1682] 95 (0, 0)) (by (with_reducible repeat (first | refine blk_drewN ?_ _ | refine blk_drew ?_ | refine blk_alloc ?_ _)); exact BK1684.out)) : gb1684 ≠ gb1688)); have n10_ := Aside0.mk ((by rw [hg]; exact Nat.ne_of_gt (blk_lt (g := gb1684) (o := .cells #[.int .i64 t1681, .int .i64 t1682] 95 (0, 0)) (by (with_reducible repeat (first | refine blk_drewN ?_ _ | refine blk_drew ?_ | refine blk_alloc ?_ _)); exact BK1684.out)) : gb1688 ≠ gb1684)); clear HO_3; clear BK1680; clear BK1684; clear HB; have HO_3 := n0_; have BK1680 := n1_; have BK1684 := n2_; have HB := n3_; have BK1688 := n4_; have GW1688 := n5_; have GE1688 := n6_; have NB1680_1688 := n7_; have NB1688_1680 := n8_; have NB1684_1688 := n9_; have NB1688_1684 := n10_; clear n0_ n1_ n2_ n3_ n4_ n5_ n6_ n7_ n8_ n9_ n10_; clear hb hbox hg; have hnb66 := NB1688_1680.out; have hnc66 := NB1680_1688.out; have hnb67 := NB1688_1684.out; have hnc67 := NB1684_1688.out; have hcz68_0 : w65.cell? ⟨gb1688, 0, none⟩ = some (.int .i64 0) := (blk_cell BK1688.out 0).trans rfl; have hcz68_1 : w65.cell? ⟨gb1688, 1, none⟩ = some (.int .i64 0) := (blk_cell BK1688.out 1).trans rfl; have hfz68_0 := blk_frozen BK1688.out 0; have hfz68_1 := blk_frozen BK1688.out 1) | (go_at_call 60; (with_reducible refine (impl_RateAt.calls kj13 _ _ t1673 t1674 t1691 _ ?side1 ?side2 A56.out).mono ?_); (case side1 => refine (Kd.R_reads' (e := 151) (base := w.heap.size) (ok := fun k_ => True) (n := t1673.length) (c := co8) ?_).2.2; exact (by (with_reducible repeat (first | apply Kd.R_alloc | apply Kd.R_drewN | apply Kd.R_drew)); exact (Kd.R_mono (Kd.R_far (p := ⟨gb1688, 1, none⟩) (Kd.R_far (p := ⟨gb1688, 0, none⟩) (Kd.R_types HO_3.out BK1688.out (by decide)) (fun _ hk => hk.2) (.int .i64 t1685)) (fun _ hk => hk.2) (.int .i64 t1686)) (fun _ h_ => h_.1)))); (case side2 => exact (Kd.R_reads' HO_3.out).2.1); rintro e w69 ⟨rfl, hb⟩; have n0_ := Aside0.mk (Kd.R_below (by (with_reducible repeat (first | apply Kd.R_alloc | apply Kd.R_drewN | apply Kd.R_drew)); exact (Kd.R_mono (Kd.R_far (p := ⟨gb1688, 1, none⟩) (Kd.R_far (p := ⟨gb1688, 0, none⟩) (Kd.R_types HO_3.out BK1688.out (by decide)) (fun _ hk => hk.2) (.int .i64 t1685)) (fun _ hk => hk.2) (.int .i64 t1686)) (fun _ h_ => h_.1))) hb); have n1_ := Aside0.mk (blk_below (g := gb1680) (o := .cells #[.int .i64 t1677, .int .i64 t1678] 95 (0, 0)) (by (with_reducible repeat (first | refine blk_drewN ?_ _ | refine blk_drew ?_ | refine blk_alloc ?_ _)); refine blk_far ?_ NB1680_1688.out _; (with_reducible repeat (first | refine blk_drewN ?_ _ | refine blk_drew ?_ | refine blk_alloc ?_ _)); refine blk_far ?_ NB1680_1688.out _; (with_reducible repeat (first | refine blk_drewN ?_ _ | refine blk_drew ?_ | refine blk_alloc ?_ _)); exact BK1680.out) hb); have n2_ := Aside0.mk (blk_below (g := gb1684) (o := .cells #[.int .i64 t1681, .int .i64 t1682] 95 (0, 0)) (by (with_reducible repeat (first | refine blk_drewN ?_ _ | refine blk_drew ?_ | refine blk_alloc ?_ _)); refine blk_far ?_ NB1684_1688.out _; (with_reducible repeat (first | refine blk_drewN ?_ _ | refine blk_drew ?_ | refine blk_alloc ?_ _)); refine blk_far ?_ NB1684_1688.out _; (with_reducible repeat (first | refine blk_drewN ?_ _ | refine blk_drew ?_ | refine blk_alloc ?_ _)); exact BK1684.out) hb); have n3_ := Aside0.mk (blk_below (g := gb1688) (o := .cells #[.int .i64 t1685, .int .i64 t1686] 95 (0, 0)) (by (with_reducible repeat (first | refine blk_drewN ?_ _ | refine blk_drew ?_ | refine blk_alloc ?_ _)); refine blk_put (cs := #[.int .i64 t1685, .int .i64 0]) ?_ 1 _ rfl; (with_reducible repeat (first | refine blk_drewN ?_ _ | refine blk_drew ?_ | refine blk_alloc ?_ _)); refine blk_put (cs := #[.int .i64 0, .int .i64 0]) ?_ 0 _ rfl; (with_reducible repeat (first | refine blk_drewN ?_ _ | refine blk_drew ?_ | refine blk_alloc ?_ _)); exact BK1688.out) hb); have n4_ := Aside0.mk (below_step (by repeat (first | (with_reducible first | exact HB.out | apply below_alloc | apply pw_below_drewN | apply below_drew1 | refine below_set ?_ GE1680.out | refine below_set ?_ GE1684.out | refine below_set ?_ GE1688.out) | exact HB.out)) hb); clear HO_3; clear BK1680; clear BK1684; clear BK1688; clear HB; have HO_3 := n0_; have BK1680 := n1_; have BK1684 := n2_; have BK1688 := n3_; have HB := n4_; clear n0_ n1_ n2_ n3_ n4_; (try clear hb); (try clear hb2); (try clear hk); (try clear hi)))
         go_meet
         case rel => exact ⟨_, H', ⟨by have := HJ13.out; first | omega | exact Nat.le_refl _⟩, ⟨by (with_reducible repeat (first | refine blk_drewN ?_ _ | refine blk_drew ?_ | refine blk_alloc ?_ _)); exact BK1680.out⟩, ⟨by repeat (first | (with_reducible first | exact HB.out | apply below_alloc | apply pw_below_drewN | apply below_drew1 | refine below_set ?_ GE1680.out | refine below_set ?_ GE1684.out | refine below_set ?_ GE1688.out) | exact HB.out)⟩⟩
   ·
    replace c12 := Bool.eq_false_iff.mpr c12
    subst c12
    rw [if_neg (show ¬ (false = true) by decide)] at H
    have H' := Aside0.mk H
    clear H
    go_wp2
    go_meet
    case rel => exact ⟨_, H', ⟨by first | omega | exact Nat.le_refl _⟩, ⟨by (with_reducible repeat (first | refine blk_drewN ?_ _ | refine blk_drew ?_ | refine blk_alloc ?_ _)); refine blk_put (cs := #[.int .i64 t1677, .int .i64 0]) ?_ 1 _ rfl; (with_reducible repeat (first | refine blk_drewN ?_ _ | refine blk_drew ?_ | refine blk_alloc ?_ _)); refine blk_put (cs := #[.int .i64 0, .int .i64 0]) ?_ 0 _ rfl; (with_reducible repeat (first | refine blk_drewN ?_ _ | refine blk_drew ?_ | refine blk_alloc ?_ _)); exact BK1680.out⟩, ⟨by repeat (first | (with_reducible first | exact HB.out | apply below_alloc | apply pw_below_drewN | apply below_drew1 | refine below_set ?_ GE1680.out) | exact HB.out)⟩⟩
  case rest =>
   clear HC6
   try clear c1
   try clear c2
   try clear p2
   try clear c3
   try clear c4
   try clear c5
   try clear c6
   try clear p6
   try clear c8
   try clear c10
   try clear c12
   try clear c18
   try clear c20
   try clear c21
   try clear c23
   try clear c25
   try clear c27
   try clear c29
   try clear c29b0
   try clear c32
   try clear c33
   try clear c35
   try clear c41
   try clear c42
   try clear c44
   try clear c50
   try clear c51
   try clear c53
   try clear c56
   try clear c57
   try clear c57b0
   try clear c58
   try clear c60
   try clear c61
   try clear p64
   try clear c66
   try clear c67
   try clear hcz11_0
   try clear hcz11_1
   try clear hcz15_0
   try clear hcz15_1
   try clear hcz19_0
   try clear hcz19_1
   try clear hcz22_0
   try clear hcz22_1
   try clear hcz34_0
   try clear hcz34_1
   try clear hcz36_0
   try clear hcz36_1
   try clear hcz43_0
   try clear hcz43_1
   try clear hcz45_0
   try clear hcz45_1
   try clear hcz52_0
   try clear hcz52_1
   try clear hcz54_0
   try clear hcz54_1
   try clear hcz62_0
   try clear hcz62_1
   try clear hcz68_0
   try clear hcz68_1
   try clear hfz11_0
   try clear hfz11_1
   try clear hfz15_0
   try clear hfz15_1
   try clear hfz19_0
   try clear hfz19_1
   try clear hfz22_0
   try clear hfz22_1
   try clear hfz34_0
   try clear hfz34_1
   try clear hfz36_0
   try clear hfz36_1
   try clear hfz43_0
   try clear hfz43_1
   try clear hfz45_0
   try clear hfz45_1
   try clear hfz52_0
   try clear hfz52_1
   try clear hfz54_0
   try clear hfz54_1
   try clear hfz62_0
   try clear hfz62_1
   try clear hfz68_0
   try clear hfz68_1
   try clear p2
   obtain ⟨kq, HA, HJ5, BK1680, HB⟩ := hcut
   cases kq with
   | zero => exact absurd HA.out (by simp [laws_FnTempos.j1])
   | succ kj5 =>
    have H := HA.out
    clear HA
    simp only [laws_FnTempos.j1] at H
    replace H := Option.bind_eq_some_iff.mp H
    obtain ⟨⟨t1692, t1695, t1696⟩, A700, H⟩ := H
    try dsimp only at H
    have A70 := Aside0.mk A700
    clear A700
    replace H := Option.bind_eq_some_iff.mp H
    obtain ⟨⟨t1698, t1699, t1700⟩, A710, H⟩ := H
    try dsimp only at H
    have A71 := Aside0.mk A710
    clear A710
    have HC72 := Aside0.mk H
    clear H
    go_upto_region 14 with (first | ((with_reducible refine gate_callee (f := 61) rfl ?_); refine goesL_ (some 68) rfl rfl Try.func61 (by kernel_rfl) rfl #[.slice A0 l0.length c0] rfl (by (try simp only [List.map_toArray, List.map_cons, List.map_nil]); first | done | rfl | (simp only [List.length_drop, List.length_take]; rfl)) ?_; (with_reducible refine (spec_DrawTickAt.calls kj5 _ _ l0 t1692 t1695 t1696 _ ?side1 ?side2 A70.out).mono ?_); (case side1 => repeat (first | exact (Kd.C_below HR0.out HB.out) | (with_reducible refine Kd.C_alloc ?_ _) | (with_reducible refine Kd.C_drewN ?_ _) | (with_reducible refine Kd.C_drew ?_))); (case side2 => exact HC0.out); rintro e w73 ⟨v1693, rfl, ho0, hb⟩; refine ⟨_, rfl, ?_⟩; have n0_ := Aside0.mk (Kd.R_lower ho0 (below_size (by repeat (first | (with_reducible first | exact HB.out | apply below_alloc | apply pw_below_drewN | apply below_drew1 | refine below_set ?_ GE1680.out) | exact HB.out)))); have n1_ := Aside0.mk (blk_below (g := gb1680) (o := .cells #[.int .i64 t1677, .int .i64 t1678] 95 (0, 0)) (by (with_reducible repeat (first | refine blk_drewN ?_ _ | refine blk_drew ?_ | refine blk_alloc ?_ _)); exact BK1680.out) hb); have n2_ := Aside0.mk (below_step (by repeat (first | (with_reducible first | exact HB.out | apply below_alloc | apply pw_below_drewN | apply below_drew1 | refine below_set ?_ GE1680.out) | exact HB.out)) hb); clear BK1680; clear HB; have HO1694 := n0_; have BK1680 := n1_; have HB := n2_; clear n0_ n1_ n2_; (try clear hb); (try clear hb2); (try clear hk); (try clear hi); (try clear ho0)) | ((with_reducible refine gate_dst (N := 12) rfl ?_); refine box_event ?hg (N := 12) ?hd (cs := #[.int .i64 0, .int .i64 0]) (t := 95) ?hr ?_; (case hd => rfl); (case hg => rfl); (case hr => first | (go_simp; done) | (go_simp; rfl)); intro gb1697 hg w74 hbox hb; have n0_ := Aside0.mk (Kd.R_below (by (with_reducible repeat (first | apply Kd.R_alloc | apply Kd.R_drewN | apply Kd.R_drew)); exact HO1694.out) hb); have n1_ := Aside0.mk (blk_below (g := gb1680) (o := .cells #[.int .i64 t1677, .int .i64 t1678] 95 (0, 0)) (by (with_reducible repeat (first | refine blk_drewN ?_ _ | refine blk_drew ?_ | refine blk_alloc ?_ _)); exact BK1680.out) hb); have n2_ := Aside0.mk (below_step (by repeat (first | (with_reducible first | exact HB.out | apply below_alloc | apply pw_below_drewN | apply below_drew1 | refine below_set ?_ GE1680.out) | exact HB.out)) hb); have n3_ := Aside0.mk (hbox); have n4_ := Aside0.mk ((by rw [hg]; exact (below_size (by repeat (first | (with_reducible first | exact HB.out | apply below_alloc | apply pw_below_drewN | apply below_drew1 | refine below_set ?_ GE1680.out) | exact HB.out))) : w.heap.size ≤ gb1697)); have n5_ := Aside0.mk ((by rw [hg]; exact (below_size (by repeat (first | (with_reducible first | exact HB.out | apply below_alloc | apply pw_below_drewN | apply below_drew1 | refine below_set ?_ GE1680.out) | exact HB.out))) : w.heap.size ≤ gb1697)); have n6_ := Aside0.mk ((by rw [hg]; exact Nat.ne_of_lt (blk_lt (g := gb1680) (o := .cells #[.int .i64 t1677, .int .i64 t1678] 95 (0, 0)) (by (with_reducible repeat (first | refine blk_drewN ?_ _ | refine blk_drew ?_ | refine blk_alloc ?_ _)); exact BK1680.out)) : gb1680 ≠ gb1697)); have n7_ := Aside0.mk ((by rw [hg]; exact Nat.ne_of_gt (blk_lt (g := gb1680) (o := .cells #[.int .i64 t1677, .int .i64 t1678] 95 (0, 0)) (by (with_reducible repeat (first | refine blk_drewN ?_ _ | refine blk_drew ?_ | refine blk_alloc ?_ _)); exact BK1680.out)) : gb1697 ≠ gb1680)); clear HO1694; clear BK1680; clear HB; have HO1694 := n0_; have BK1680 := n1_; have HB := n2_; have BK1697 := n3_; have GW1697 := n4_; have GE1697 := n5_; have NB1680_1697 := n6_; have NB1697_1680 := n7_; clear n0_ n1_ n2_ n3_ n4_ n5_ n6_ n7_; clear hb hbox hg; have hnb75 := NB1697_1680.out; have hnc75 := NB1680_1697.out; have hcz76_0 : w74.cell? ⟨gb1697, 0, none⟩ = some (.int .i64 0) := (blk_cell BK1697.out 0).trans rfl; have hcz76_1 : w74.cell? ⟨gb1697, 1, none⟩ = some (.int .i64 0) := (blk_cell BK1697.out 1).trans rfl; have hfz76_0 := blk_frozen BK1697.out 0; have hfz76_1 := blk_frozen BK1697.out 1; obtain ⟨Ao77, co77, eo77⟩ := Kd.R_slice HO1694.out; subst eo77) | ((with_reducible refine gate_callee (f := 58) rfl ?_); refine goesL_ (some 74) rfl rfl Try.func58 (by kernel_rfl) rfl #[.slice Ao77 t1692.length co77, .agg #[.int .i64 t1695, .int .i64 t1696]] rfl (by (try simp only [List.map_toArray, List.map_cons, List.map_nil]); first | done | rfl | (simp only [List.length_drop, List.length_take]; rfl)) ?_; (with_reducible refine (impl_TickAt.calls kj5 _ _ t1692 t1695 t1696 t1698 t1699 t1700 _ ?side1 ?side2 A71.out).mono ?_); (case side1 => refine (Kd.R_reads' (e := 151) (base := w.heap.size) (ok := fun k_ => True) (n := t1692.length) (c := co77) ?_).2.2; exact (by (with_reducible repeat (first | apply Kd.R_alloc | apply Kd.R_drewN | apply Kd.R_drew)); exact (Kd.R_mono (Kd.R_far (p := ⟨gb1697, 1, none⟩) (Kd.R_far (p := ⟨gb1697, 0, none⟩) (Kd.R_types HO1694.out BK1697.out (by decide)) (fun _ hk => hk.2) (.int .i64 t1695)) (fun _ hk => hk.2) (.int .i64 t1696)) (fun _ h_ => h_.1)))); (case side2 => exact (Kd.R_reads' HO1694.out).2.1); rintro e w78 ⟨rfl, hb⟩; refine ⟨_, rfl, ?_⟩; have n0_ := Aside0.mk (Kd.R_below (by (with_reducible repeat (first | apply Kd.R_alloc | apply Kd.R_drewN | apply Kd.R_drew)); exact (Kd.R_mono (Kd.R_far (p := ⟨gb1697, 1, none⟩) (Kd.R_far (p := ⟨gb1697, 0, none⟩) (Kd.R_types HO1694.out BK1697.out (by decide)) (fun _ hk => hk.2) (.int .i64 t1695)) (fun _ hk => hk.2) (.int .i64 t1696)) (fun _ h_ => h_.1))) hb); have n1_ := Aside0.mk (blk_below (g := gb1680) (o := .cells #[.int .i64 t1677, .int .i64 t1678] 95 (0, 0)) (by (with_reducible repeat (first | refine blk_drewN ?_ _ | refine blk_drew ?_ | refine blk_alloc ?_ _)); refine blk_far ?_ NB1680_1697.out _; (with_reducible repeat (first | refine blk_drewN ?_ _ | refine blk_drew ?_ | refine blk_alloc ?_ _)); refine blk_far ?_ NB1680_1697.out _; (with_reducible repeat (first | refine blk_drewN ?_ _ | refine blk_drew ?_ | refine blk_alloc ?_ _)); exact BK1680.out) hb); have n2_ := Aside0.mk (blk_below (g := gb1697) (o := .cells #[.int .i64 t1695, .int .i64 t1696] 95 (0, 0)) (by (with_reducible repeat (first | refine blk_drewN ?_ _ | refine blk_drew ?_ | refine blk_alloc ?_ _)); refine blk_put (cs := #[.int .i64 t1695, .int .i64 0]) ?_ 1 _ rfl; (with_reducible repeat (first | refine blk_drewN ?_ _ | refine blk_drew ?_ | refine blk_alloc ?_ _)); refine blk_put (cs := #[.int .i64 0, .int .i64 0]) ?_ 0 _ rfl; (with_reducible repeat (first | refine blk_drewN ?_ _ | refine blk_drew ?_ | refine blk_alloc ?_ _)); exact BK1697.out) hb); have n3_ := Aside0.mk (below_step (by repeat (first | (with_reducible first | exact HB.out | apply below_alloc | apply pw_below_drewN | apply below_drew1 | refine below_set ?_ GE1680.out | refine below_set ?_ GE1697.out) | exact HB.out)) hb); clear HO1694; clear BK1680; clear BK1697; clear HB; have HO1694 := n0_; have BK1680 := n1_; have BK1697 := n2_; have HB := n3_; clear n0_ n1_ n2_ n3_; (try clear hb); (try clear hb2); (try clear hk); (try clear hi)) | ((with_reducible refine gate_dst (N := 13) rfl ?_); refine box_event ?hg (N := 13) ?hd (cs := #[.int .i64 0, .int .i64 0]) (t := 95) ?hr ?_; (case hd => rfl); (case hg => rfl); (case hr => first | (go_simp; done) | (go_simp; rfl)); intro gb1701 hg w79 hbox hb; have n0_ := Aside0.mk (Kd.R_below (by (with_reducible repeat (first | apply Kd.R_alloc | apply Kd.R_drewN | apply Kd.R_drew)); exact HO1694.out) hb); have n1_ := Aside0.mk (blk_below (g := gb1680) (o := .cells #[.int .i64 t1677, .int .i64 t1678] 95 (0, 0)) (by (with_reducible repeat (first | refine blk_drewN ?_ _ | refine blk_drew ?_ | refine blk_alloc ?_ _)); exact BK1680.out) hb); have n2_ := Aside0.mk (blk_below (g := gb1697) (o := .cells #[.int .i64 t1695, .int .i64 t1696] 95 (0, 0)) (by (with_reducible repeat (first | refine blk_drewN ?_ _ | refine blk_drew ?_ | refine blk_alloc ?_ _)); exact BK1697.out) hb); have n3_ := Aside0.mk (below_step (by repeat (first | (with_reducible first | exact HB.out | apply below_alloc | apply pw_below_drewN | apply below_drew1 | refine below_set ?_ GE1680.out | refine below_set ?_ GE1697.out) | exact HB.out)) hb); have n4_ := Aside0.mk (hbox); have n5_ := Aside0.mk ((by rw [hg]; exact (below_size (by repeat (first | (with_reducible first | exact HB.out | apply below_alloc | apply pw_below_drewN | apply below_drew1 | refine below_set ?_ GE1680.out | refine below_set ?_ GE1697.out) | exact HB.out))) : w.heap.size ≤ gb1701)); have n6_ := Aside0.mk ((by rw [hg]; exact (below_size (by repeat (first | (with_reducible first | exact HB.out | apply below_alloc | apply pw_below_drewN | apply below_drew1 | refine below_set ?_ GE1680.out | refine below_set ?_ GE1697.out) | exact HB.out))) : w.heap.size ≤ gb1701)); have n7_ := Aside0.mk ((by rw [hg]; exact Nat.ne_of_lt (blk_lt (g := gb1680) (o := .cells #[.int .i64 t1677, .int .i64 t1678] 95 (0, 0)) (by (with_reducible repeat (first | refine blk_drewN ?_ _ | refine blk_drew ?_ | refine blk_alloc ?_ _)); exact BK1680.out)) : gb1680 ≠ gb1701)); have n8_ := Aside0.mk ((by rw [hg]; exact Nat.ne_of_gt (blk_lt (g := gb1680) (o := .cells #[.int .i64 t1677, .int .i64 t1678] 95 (0, 0)) (by (with_reducible repeat (first | refine blk_drewN ?_ _ | refine blk_drew ?_ | refine blk_alloc ?_ _)); exact BK1680.out)) : gb1701 ≠ gb1680)); have n9_ := Aside0.mk ((by rw [hg]; exact Nat.ne_of_lt (blk_lt (g := gb1697) (o := .cells #[.int .i64 t1695, .int .i64 t1696] 95 (0, 0)) (by (with_reducible repeat (first | refine blk_drewN ?_ _ | refine blk_drew ?_ | refine blk_alloc ?_ _)); exact BK1697.out)) : gb1697 ≠ gb1701)); have n10_ := Aside0.mk ((by rw [hg]; exact Nat.ne_of_gt (blk_lt (g := gb1697) (o := .cells #[.int .i64 t1695, .int .i64 t1696] 95 (0, 0)) (by (with_reducible repeat (first | refine blk_drewN ?_ _ | refine blk_drew ?_ | refine blk_alloc ?_ _)); exact BK1697.out)) : gb1701 ≠ gb1697)); clear HO1694; clear BK1680; clear BK1697; clear HB; have HO1694 := n0_; have BK1680 := n1_; have BK1697 := n2_; have HB := n3_; have BK1701 := n4_; have GW1701 := n5_; have GE1701 := n6_; have NB1680_1701 := n7_; have NB1701_1680 := n8_; have NB1697_1701 := n9_; have NB1701_1697 := n10_; clear n0_ n1_ n2_ n3_ n4_ n5_ n6_ n7_ n8_ n9_ n10_; clear hb hbox hg; have hnb80 := NB1701_1680.out; have hnc80 := NB1680_1701.out; have hnb81 := NB1701_1697.out; have hnc81 := NB1697_1701.out; have hcz82_0 : w79.cell? ⟨gb1701, 0, none⟩ = some (.int .i64 0) := (blk_cell BK1701.out 0).trans rfl; have hcz82_1 : w79.cell? ⟨gb1701, 1, none⟩ = some (.int .i64 0) := (blk_cell BK1701.out 1).trans rfl; have hfz82_0 := blk_frozen BK1701.out 0; have hfz82_1 := blk_frozen BK1701.out 1))
    (try simp only [Act.put, List.setIfInBounds_toArray, List.set_cons_zero, List.set_cons_succ])
    go_cut [87] (fun v87 wc => ∃ (kq : Nat) (x87_71 : Bool), v87 = .bool x87_71 ∧ Aside0 (laws_FnTempos.j2 kq l0 x87_71 = some r) ∧ Aside0 (kq ≤ kj5) ∧ Aside0 (wc.heap[gb1680]? = some (.cells #[.int .i64 t1677, .int .i64 t1678] 95 (0, 0))) ∧ Aside0 (wc.heap[gb1697]? = some (.cells #[.int .i64 t1695, .int .i64 t1696] 95 (0, 0))) ∧ Aside0 (wc.heap[gb1701]? = some (.cells #[.int .i64 t1698, .int .i64 t1699] 95 (0, 0))) ∧ Aside0 (Below w.heap.size w wc))
    case first =>
     have H := HC72.out
     clear HC72
     by_cases c83 : t1700 = true
     ·
      subst c83
      rw [if_pos rfl] at H
      replace H := Option.bind_eq_some_iff.mp H
      obtain ⟨t1702, A840, H⟩ := H
      try dsimp only at H
      have A84 := Aside0.mk A840
      clear A840
      by_cases c85 : t1702 = true
      ·
       subst c85
       rw [if_pos rfl] at H
       have H' := Aside0.mk H
       clear H
       have hnb86 := NB1701_1680.out
       have hnc86 := NB1680_1701.out
       have hnb87 := NB1701_1697.out
       have hnc87 := NB1697_1701.out
       have hcz88_0 : w79.cell? ⟨gb1701, 0, none⟩ = some (.int .i64 0) := (blk_cell BK1701.out 0).trans rfl
       have hcz88_1 : w79.cell? ⟨gb1701, 1, none⟩ = some (.int .i64 0) := (blk_cell BK1701.out 1).trans rfl
       have hfz88_0 := blk_frozen BK1701.out 0
       have hfz88_1 := blk_frozen BK1701.out 1
       go_wp2_with (first | (go_at_call 62; (with_reducible refine (impl_IsRatio.calls kj5 t1698 t1699 true _ A84.out).mono ?_); rintro e w89 ⟨rfl, hb⟩; have n0_ := Aside0.mk (Kd.R_below (by (with_reducible repeat (first | apply Kd.R_alloc | apply Kd.R_drewN | apply Kd.R_drew)); exact (Kd.R_mono (Kd.R_far (p := ⟨gb1701, 1, none⟩) (Kd.R_far (p := ⟨gb1701, 0, none⟩) (Kd.R_types HO1694.out BK1701.out (by decide)) (fun _ hk => hk.2) (.int .i64 t1698)) (fun _ hk => hk.2) (.int .i64 t1699)) (fun _ h_ => h_.1))) hb); have n1_ := Aside0.mk (blk_below (g := gb1680) (o := .cells #[.int .i64 t1677, .int .i64 t1678] 95 (0, 0)) (by (with_reducible repeat (first | refine blk_drewN ?_ _ | refine blk_drew ?_ | refine blk_alloc ?_ _)); refine blk_far ?_ NB1680_1701.out _; (with_reducible repeat (first | refine blk_drewN ?_ _ | refine blk_drew ?_ | refine blk_alloc ?_ _)); refine blk_far ?_ NB1680_1701.out _; (with_reducible repeat (first | refine blk_drewN ?_ _ | refine blk_drew ?_ | refine blk_alloc ?_ _)); exact BK1680.out) hb); have n2_ := Aside0.mk (blk_below (g := gb1697) (o := .cells #[.int .i64 t1695, .int .i64 t1696] 95 (0, 0)) (by (with_reducible repeat (first | refine blk_drewN ?_ _ | refine blk_drew ?_ | refine blk_alloc ?_ _)); refine blk_far ?_ NB1697_1701.out _; (with_reducible repeat (first | refine blk_drewN ?_ _ | refine blk_drew ?_ | refine blk_alloc ?_ _)); refine blk_far ?_ NB1697_1701.out _; (with_reducible repeat (first | refine blk_drewN ?_ _ | refine blk_drew ?_ | refine blk_alloc ?_ _)); exact BK1697.out) hb); have n3_ := Aside0.mk (blk_below (g := gb1701) (o := .cells #[.int .i64 t1698, .int .i64 t1699] 95 (0, 0)) (by (with_reducible repeat (first | refine blk_drewN ?_ _ | refine blk_drew ?_ | refine blk_alloc ?_ _)); refine blk_put (cs := #[.int .i64 t1698, .int .i64 0]) ?_ 1 _ rfl; (with_reducible repeat (first | refine blk_drewN ?_ _ | refine blk_drew ?_ | refine blk_alloc ?_ _)); refine blk_put (cs := #[.int .i64 0, .int .i64 0]) ?_ 0 _ rfl; (with_reducible repeat (first | refine blk_drewN ?_ _ | refine blk_drew ?_ | refine blk_alloc ?_ _)); exact BK1701.out) hb); have n4_ := Aside0.mk (below_step (by repeat (first | (with_reducible first | exact HB.out | apply below_alloc | apply pw_below_drewN | apply below_drew1 | refine below_set ?_ GE1680.out | refine below_set ?_ GE1697.out | refine below_set ?_ GE1701.out) | exact HB.out)) hb); clear HO1694; clear BK1680; clear BK1697; clear BK1701; clear HB; have HO1694 := n0_; have BK1680 := n1_; have BK1697 := n2_; have BK1701 := n3_; have HB := n4_; clear n0_ n1_ n2_ n3_ n4_; (try clear hb); (try clear hb2); (try clear hk); (try clear hi); have hcz90_0 : w89.cell? ⟨gb1701, 0, none⟩ = some (.int .i64 t1698) := (blk_cell BK1701.out 0).trans rfl; have hcz90_1 : w89.cell? ⟨gb1701, 1, none⟩ = some (.int .i64 t1699) := (blk_cell BK1701.out 1).trans rfl; have hfz90_0 := blk_frozen BK1701.out 0; have hfz90_1 := blk_frozen BK1701.out 1))
       go_meet
       case rel => exact ⟨_, (decide (t1698 < 0)), (by first | rfl | (simp; done) | (simp [*]; done)), H', ⟨by have := HJ5.out; first | omega | exact Nat.le_refl _⟩, ⟨by (with_reducible repeat (first | refine blk_drewN ?_ _ | refine blk_drew ?_ | refine blk_alloc ?_ _)); exact BK1680.out⟩, ⟨by (with_reducible repeat (first | refine blk_drewN ?_ _ | refine blk_drew ?_ | refine blk_alloc ?_ _)); exact BK1697.out⟩, ⟨by (with_reducible repeat (first | refine blk_drewN ?_ _ | refine blk_drew ?_ | refine blk_alloc ?_ _)); exact BK1701.out⟩, ⟨by repeat (first | (with_reducible first | exact HB.out | apply below_alloc | apply pw_below_drewN | apply below_drew1 | refine below_set ?_ GE1680.out | refine below_set ?_ GE1697.out | refine below_set ?_ GE1701.out) | exact HB.out)⟩⟩
      ·
       replace c85 := Bool.eq_false_iff.mpr c85
       subst c85
       rw [if_neg (show ¬ (false = true) by decide)] at H
       have H' := Aside0.mk H
       clear H
       have hnb91 := NB1701_1680.out
       have hnc91 := NB1680_1701.out
       have hnb92 := NB1701_1697.out
       have hnc92 := NB1697_1701.out
       have hcz93_0 : w79.cell? ⟨gb1701, 0, none⟩ = some (.int .i64 0) := (blk_cell BK1701.out 0).trans rfl
       have hcz93_1 : w79.cell? ⟨gb1701, 1, none⟩ = some (.int .i64 0) := (blk_cell BK1701.out 1).trans rfl
       have hfz93_0 := blk_frozen BK1701.out 0
       have hfz93_1 := blk_frozen BK1701.out 1
       go_wp2_with (first | (go_at_call 62; (with_reducible refine (impl_IsRatio.calls kj5 t1698 t1699 false _ A84.out).mono ?_); rintro e w94 ⟨rfl, hb⟩; have n0_ := Aside0.mk (Kd.R_below (by (with_reducible repeat (first | apply Kd.R_alloc | apply Kd.R_drewN | apply Kd.R_drew)); exact (Kd.R_mono (Kd.R_far (p := ⟨gb1701, 1, none⟩) (Kd.R_far (p := ⟨gb1701, 0, none⟩) (Kd.R_types HO1694.out BK1701.out (by decide)) (fun _ hk => hk.2) (.int .i64 t1698)) (fun _ hk => hk.2) (.int .i64 t1699)) (fun _ h_ => h_.1))) hb); have n1_ := Aside0.mk (blk_below (g := gb1680) (o := .cells #[.int .i64 t1677, .int .i64 t1678] 95 (0, 0)) (by (with_reducible repeat (first | refine blk_drewN ?_ _ | refine blk_drew ?_ | refine blk_alloc ?_ _)); refine blk_far ?_ NB1680_1701.out _; (with_reducible repeat (first | refine blk_drewN ?_ _ | refine blk_drew ?_ | refine blk_alloc ?_ _)); refine blk_far ?_ NB1680_1701.out _; (with_reducible repeat (first | refine blk_drewN ?_ _ | refine blk_drew ?_ | refine blk_alloc ?_ _)); exact BK1680.out) hb); have n2_ := Aside0.mk (blk_below (g := gb1697) (o := .cells #[.int .i64 t1695, .int .i64 t1696] 95 (0, 0)) (by (with_reducible repeat (first | refine blk_drewN ?_ _ | refine blk_drew ?_ | refine blk_alloc ?_ _)); refine blk_far ?_ NB1697_1701.out _; (with_reducible repeat (first | refine blk_drewN ?_ _ | refine blk_drew ?_ | refine blk_alloc ?_ _)); refine blk_far ?_ NB1697_1701.out _; (with_reducible repeat (first | refine blk_drewN ?_ _ | refine blk_drew ?_ | refine blk_alloc ?_ _)); exact BK1697.out) hb); have n3_ := Aside0.mk (blk_below (g := gb1701) (o := .cells #[.int .i64 t1698, .int .i64 t1699] 95 (0, 0)) (by (with_reducible repeat (first | refine blk_drewN ?_ _ | refine blk_drew ?_ | refine blk_alloc ?_ _)); refine blk_put (cs := #[.int .i64 t1698, .int .i64 0]) ?_ 1 _ rfl; (with_reducible repeat (first | refine blk_drewN ?_ _ | refine blk_drew ?_ | refine blk_alloc ?_ _)); refine blk_put (cs := #[.int .i64 0, .int .i64 0]) ?_ 0 _ rfl; (with_reducible repeat (first | refine blk_drewN ?_ _ | refine blk_drew ?_ | refine blk_alloc ?_ _)); exact BK1701.out) hb); have n4_ := Aside0.mk (below_step (by repeat (first | (with_reducible first | exact HB.out | apply below_alloc | apply pw_below_drewN | apply below_drew1 | refine below_set ?_ GE1680.out | refine below_set ?_ GE1697.out | refine below_set ?_ GE1701.out) | exact HB.out)) hb); clear HO1694; clear BK1680; clear BK1697; clear BK1701; clear HB; have HO1694 := n0_; have BK1680 := n1_; have BK1697 := n2_; have BK1701 := n3_; have HB := n4_; clear n0_ n1_ n2_ n3_ n4_; (try clear hb); (try clear hb2); (try clear hk); (try clear hi)))
       go_meet
       case rel => exact ⟨_, (true), (by first | rfl | (simp; done) | (simp [*]; done)), H', ⟨by have := HJ5.out; first | omega | exact Nat.le_refl _⟩, ⟨by (with_reducible repeat (first | refine blk_drewN ?_ _ | refine blk_drew ?_ | refine blk_alloc ?_ _)); exact BK1680.out⟩, ⟨by (with_reducible repeat (first | refine blk_drewN ?_ _ | refine blk_drew ?_ | refine blk_alloc ?_ _)); exact BK1697.out⟩, ⟨by (with_reducible repeat (first | refine blk_drewN ?_ _ | refine blk_drew ?_ | refine blk_alloc ?_ _)); exact BK1701.out⟩, ⟨by repeat (first | (with_reducible first | exact HB.out | apply below_alloc | apply pw_below_drewN | apply below_drew1 | refine below_set ?_ GE1680.out | refine below_set ?_ GE1697.out | refine below_set ?_ GE1701.out) | exact HB.out)⟩⟩
     ·
      replace c83 := Bool.eq_false_iff.mpr c83
      subst c83
      rw [if_neg (show ¬ (false = true) by decide)] at H
      have H' := Aside0.mk H
      clear H
      go_wp2
      go_meet
      case rel => exact ⟨_, (false), (by first | rfl | (simp; done) | (simp [*]; done)), H', ⟨by have := HJ5.out; first | omega | exact Nat.le_refl _⟩, ⟨by (with_reducible repeat (first | refine blk_drewN ?_ _ | refine blk_drew ?_ | refine blk_alloc ?_ _)); refine blk_far ?_ NB1680_1701.out _; (with_reducible repeat (first | refine blk_drewN ?_ _ | refine blk_drew ?_ | refine blk_alloc ?_ _)); refine blk_far ?_ NB1680_1701.out _; (with_reducible repeat (first | refine blk_drewN ?_ _ | refine blk_drew ?_ | refine blk_alloc ?_ _)); exact BK1680.out⟩, ⟨by (with_reducible repeat (first | refine blk_drewN ?_ _ | refine blk_drew ?_ | refine blk_alloc ?_ _)); refine blk_far ?_ NB1697_1701.out _; (with_reducible repeat (first | refine blk_drewN ?_ _ | refine blk_drew ?_ | refine blk_alloc ?_ _)); refine blk_far ?_ NB1697_1701.out _; (with_reducible repeat (first | refine blk_drewN ?_ _ | refine blk_drew ?_ | refine blk_alloc ?_ _)); exact BK1697.out⟩, ⟨by (with_reducible repeat (first | refine blk_drewN ?_ _ | refine blk_drew ?_ | refine blk_alloc ?_ _)); refine blk_put (cs := #[.int .i64 t1698, .int .i64 0]) ?_ 1 _ rfl; (with_reducible repeat (first | refine blk_drewN ?_ _ | refine blk_drew ?_ | refine blk_alloc ?_ _)); refine blk_put (cs := #[.int .i64 0, .int .i64 0]) ?_ 0 _ rfl; (with_reducible repeat (first | refine blk_drewN ?_ _ | refine blk_drew ?_ | refine blk_alloc ?_ _)); exact BK1701.out⟩, ⟨by repeat (first | (with_reducible first | exact HB.out | apply below_alloc | apply pw_below_drewN | apply below_drew1 | refine below_set ?_ GE1680.out | refine below_set ?_ GE1697.out | refine below_set ?_ GE1701.out) | exact HB.out)⟩⟩
    case rest =>
     clear HC72
     try clear c1
     try clear c2
     try clear p2
     try clear c3
     try clear c4
     try clear c5
     try clear c6
     try clear p6
     try clear c7
     try clear c8
     try clear c9
     try clear c10
     try clear c12
     try clear c18
     try clear c20
     try clear c21
     try clear c23
     try clear c25
     try clear c27
     try clear c29
     try clear c29b0
     try clear c32
     try clear c33
     try clear c35
     try clear c41
     try clear c42
     try clear c44
     try clear c50
     try clear c51
     try clear c53
     try clear c56
     try clear c57
     try clear c57b0
     try clear c58
     try clear c60
     try clear c61
     try clear p64
     try clear c66
     try clear c67
     try clear c75
     try clear c80
     try clear c81
     try clear c83
     try clear c85
     try clear c86
     try clear c87
     try clear c91
     try clear c92
     try clear hcz11_0
     try clear hcz11_1
     try clear hcz15_0
     try clear hcz15_1
     try clear hcz19_0
     try clear hcz19_1
     try clear hcz22_0
     try clear hcz22_1
     try clear hcz34_0
     try clear hcz34_1
     try clear hcz36_0
     try clear hcz36_1
     try clear hcz43_0
     try clear hcz43_1
     try clear hcz45_0
     try clear hcz45_1
     try clear hcz52_0
     try clear hcz52_1
     try clear hcz54_0
     try clear hcz54_1
     try clear hcz62_0
     try clear hcz62_1
     try clear hcz68_0
     try clear hcz68_1
     try clear hcz76_0
     try clear hcz76_1
     try clear hcz82_0
     try clear hcz82_1
     try clear hcz88_0
     try clear hcz88_1
     try clear hcz90_0
     try clear hcz90_1
     try clear hcz93_0
     try clear hcz93_1
     try clear hfz11_0
     try clear hfz11_1
     try clear hfz15_0
     try clear hfz15_1
     try clear hfz19_0
     try clear hfz19_1
     try clear hfz22_0
     try clear hfz22_1
     try clear hfz34_0
     try clear hfz34_1
     try clear hfz36_0
     try clear hfz36_1
     try clear hfz43_0
     try clear hfz43_1
     try clear hfz45_0
     try clear hfz45_1
     try clear hfz52_0
     try clear hfz52_1
     try clear hfz54_0
     try clear hfz54_1
     try clear hfz62_0
     try clear hfz62_1
     try clear hfz68_0
     try clear hfz68_1
     try clear hfz76_0
     try clear hfz76_1
     try clear hfz82_0
     try clear hfz82_1
     try clear hfz88_0
     try clear hfz88_1
     try clear hfz90_0
     try clear hfz90_1
     try clear hfz93_0
     try clear hfz93_1
     try clear p2
     try clear p6
     try clear p64
     obtain ⟨kq, x87_71, rfl, HA, HJ71, BK1680, BK1697, BK1701, HB⟩ := hcut
     cases kq with
     | zero => exact absurd HA.out (by simp [laws_FnTempos.j2])
     | succ kj71 =>
      have H := HA.out
      clear HA
      simp only [laws_FnTempos.j2] at H
      by_cases c95 : x87_71 = true
      ·
       subst c95
       rw [if_pos rfl] at H
       obtain rfl := Option.some.inj H
       go_wp2
       go_ret
       exact ⟨by first | rfl | (simp [errW_none, errW_some] <;> rfl) | (simp [*, errW_none, errW_some] <;> rfl), by repeat (first | (with_reducible first | exact HB.out | apply below_alloc | apply pw_below_drewN | apply below_drew1 | refine below_set ?_ GE1680.out | refine below_set ?_ GE1697.out | refine below_set ?_ GE1701.out) | exact HB.out)⟩
      ·
       replace c95 := Bool.eq_false_iff.mpr c95
       subst c95
       rw [if_neg (show ¬ (false = true) by decide)] at H
       replace H := Option.bind_eq_some_iff.mp H
       obtain ⟨⟨t1703, t1704⟩, A960, H⟩ := H
       try dsimp only at H
       have A96 := Aside0.mk A960
       clear A960
       replace H := Option.bind_eq_some_iff.mp H
       obtain ⟨⟨t1707, t1708⟩, A970, H⟩ := H
       try dsimp only at H
       have A97 := Aside0.mk A970
       clear A970
       by_cases c98 : (t1707.length : Int) = (t1703.length : Int)
       ·
        rw [if_pos c98] at H
        have c98b0 : ((t1707.length : Int) == (t1703.length : Int)) = true := beq_iff_eq.mpr c98
        have c98b1 : ((t1707.length : Int) != (t1703.length : Int)) = false := bne_eq_false_iff_eq.mpr c98
        have c98b2 : (t1707.length == t1703.length) = true := by first | simpa using c98 | (simp at c98 ⊢; omega)
        clear c98
        by_cases c99 : t1708 = true
        ·
         subst c99
         rw [if_pos rfl] at H
         replace H := Option.bind_eq_some_iff.mp H
         obtain ⟨t1711, A1000, H⟩ := H
         try dsimp only at H
         have A100 := Aside0.mk A1000
         clear A1000
         obtain rfl := Option.some.inj H
         go_wp2_with (first | ((with_reducible refine gate_callee (f := 63) rfl ?_); refine goesL_ (some 90) rfl rfl Try.func63 (by kernel_rfl) rfl #[.slice A0 l0.length c0] rfl (by (try simp only [List.map_toArray, List.map_cons, List.map_nil]); first | done | rfl | (simp only [List.length_drop, List.length_take]; rfl)) ?_; (with_reducible refine (spec_DrawScaleTempo.calls kj71 _ _ l0 t1703 t1704 _ ?side1 ?side2 A96.out).mono ?_); (case side1 => repeat (first | exact (Kd.C_below HR0.out HB.out) | (with_reducible refine Kd.C_alloc ?_ _) | (with_reducible refine Kd.C_drewN ?_ _) | (with_reducible refine Kd.C_drew ?_))); (case side2 => exact HC0.out); rintro e w101 ⟨v1705, rfl, ho0, hb⟩; refine ⟨_, rfl, ?_⟩; have n0_ := Aside0.mk (Kd.R_lower ho0 (below_size (by repeat (first | (with_reducible first | exact HB.out | apply below_alloc | apply pw_below_drewN | apply below_drew1 | refine below_set ?_ GE1680.out | refine below_set ?_ GE1697.out | refine below_set ?_ GE1701.out) | exact HB.out)))); have n1_ := Aside0.mk (blk_below (g := gb1680) (o := .cells #[.int .i64 t1677, .int .i64 t1678] 95 (0, 0)) (by (with_reducible repeat (first | refine blk_drewN ?_ _ | refine blk_drew ?_ | refine blk_alloc ?_ _)); exact BK1680.out) hb); have n2_ := Aside0.mk (blk_below (g := gb1697) (o := .cells #[.int .i64 t1695, .int .i64 t1696] 95 (0, 0)) (by (with_reducible repeat (first | refine blk_drewN ?_ _ | refine blk_drew ?_ | refine blk_alloc ?_ _)); exact BK1697.out) hb); have n3_ := Aside0.mk (blk_below (g := gb1701) (o := .cells #[.int .i64 t1698, .int .i64 t1699] 95 (0, 0)) (by (with_reducible repeat (first | refine blk_drewN ?_ _ | refine blk_drew ?_ | refine blk_alloc ?_ _)); exact BK1701.out) hb); have n4_ := Aside0.mk (below_step (by repeat (first | (with_reducible first | exact HB.out | apply below_alloc | apply pw_below_drewN | apply below_drew1 | refine below_set ?_ GE1680.out | refine below_set ?_ GE1697.out | refine below_set ?_ GE1701.out) | exact HB.out)) hb); clear BK1680; clear BK1697; clear BK1701; clear HB; have HO1706 := n0_; have BK1680 := n1_; have BK1697 := n2_; have BK1701 := n3_; have HB := n4_; clear n0_ n1_ n2_ n3_ n4_; (try clear hb); (try clear hb2); (try clear hk); (try clear hi); (try clear ho0); obtain ⟨Ao102, co102, eo102⟩ := Kd.R_slice HO1706.out; subst eo102) | ((with_reducible refine gate_callee (f := 64) rfl ?_); refine goesL_ (some 96) rfl rfl Try.func64 (by kernel_rfl) rfl #[.slice Ao102 t1703.length co102, .int .i64 t1704] rfl (by (try simp only [List.map_toArray, List.map_cons, List.map_nil]); first | done | rfl | (simp only [List.length_drop, List.length_take]; rfl)) ?_; (with_reducible refine (impl_ScaleTempo.calls kj71 _ _ t1703 t1704 t1707 true _ ?side1 ?side2 A97.out).mono ?_); (case side1 => repeat (first | exact (Kd.R_reads' HO1706.out).2.2 | (with_reducible refine Kd.C_alloc ?_ _) | (with_reducible refine Kd.C_drewN ?_ _) | (with_reducible refine Kd.C_drew ?_))); (case side2 => exact (Kd.R_reads' HO1706.out).2.1); rintro e w103 ⟨v1709, rfl, ho0, hb⟩; refine ⟨_, rfl, ?_⟩; have n0_ := Aside0.mk (Kd.R_elder' (by (with_reducible repeat (first | apply Kd.R_alloc | apply Kd.R_drewN | apply Kd.R_drew)); exact HO1706.out) (Kd.R_base ho0) hb); have n1_ := Aside0.mk (Kd.R_lower (Kd.R_new' ho0 (Kd.R_lt (by (with_reducible repeat (first | apply Kd.R_alloc | apply Kd.R_drewN | apply Kd.R_drew)); exact HO1706.out))) (below_size (by repeat (first | (with_reducible first | exact HB.out | apply below_alloc | apply pw_below_drewN | apply below_drew1 | refine below_set ?_ GE1680.out | refine below_set ?_ GE1697.out | refine below_set ?_ GE1701.out) | exact HB.out)))); have n2_ := Aside0.mk (blk_below (g := gb1680) (o := .cells #[.int .i64 t1677, .int .i64 t1678] 95 (0, 0)) (by (with_reducible repeat (first | refine blk_drewN ?_ _ | refine blk_drew ?_ | refine blk_alloc ?_ _)); exact BK1680.out) hb); have n3_ := Aside0.mk (blk_below (g := gb1697) (o := .cells #[.int .i64 t1695, .int .i64 t1696] 95 (0, 0)) (by (with_reducible repeat (first | refine blk_drewN ?_ _ | refine blk_drew ?_ | refine blk_alloc ?_ _)); exact BK1697.out) hb); have n4_ := Aside0.mk (blk_below (g := gb1701) (o := .cells #[.int .i64 t1698, .int .i64 t1699] 95 (0, 0)) (by (with_reducible repeat (first | refine blk_drewN ?_ _ | refine blk_drew ?_ | refine blk_alloc ?_ _)); exact BK1701.out) hb); have n5_ := Aside0.mk (below_step (by repeat (first | (with_reducible first | exact HB.out | apply below_alloc | apply pw_below_drewN | apply below_drew1 | refine below_set ?_ GE1680.out | refine below_set ?_ GE1697.out | refine below_set ?_ GE1701.out) | exact HB.out)) hb); clear HO1706; clear BK1680; clear BK1697; clear BK1701; clear HB; have HO1706 := n0_; have HO1710 := n1_; have BK1680 := n2_; have BK1697 := n3_; have BK1701 := n4_; have HB := n5_; clear n0_ n1_ n2_ n3_ n4_ n5_; (try clear hb); (try clear hb2); (try clear hk); (try clear hi); (try clear ho0); obtain ⟨Ao104, co104, eo104⟩ := Kd.R_slice HO1710.out; subst eo104) | (go_at_call 65; (with_reducible refine (impl_IsTempo.calls kj71 _ _ t1707 t1711 _ ?side1 ?side2 A100.out).mono ?_); (case side1 => repeat (first | exact (Kd.R_reads' HO1710.out).2.2 | (with_reducible refine Kd.C_alloc ?_ _) | (with_reducible refine Kd.C_drewN ?_ _) | (with_reducible refine Kd.C_drew ?_))); (case side2 => exact (Kd.R_reads' HO1710.out).2.1); rintro e w105 ⟨rfl, hb⟩; have n0_ := Aside0.mk (Kd.R_below (by (with_reducible repeat (first | apply Kd.R_alloc | apply Kd.R_drewN | apply Kd.R_drew)); exact HO1706.out) hb); have n1_ := Aside0.mk (Kd.R_below (by (with_reducible repeat (first | apply Kd.R_alloc | apply Kd.R_drewN | apply Kd.R_drew)); exact HO1710.out) hb); have n2_ := Aside0.mk (blk_below (g := gb1680) (o := .cells #[.int .i64 t1677, .int .i64 t1678] 95 (0, 0)) (by (with_reducible repeat (first | refine blk_drewN ?_ _ | refine blk_drew ?_ | refine blk_alloc ?_ _)); exact BK1680.out) hb); have n3_ := Aside0.mk (blk_below (g := gb1697) (o := .cells #[.int .i64 t1695, .int .i64 t1696] 95 (0, 0)) (by (with_reducible repeat (first | refine blk_drewN ?_ _ | refine blk_drew ?_ | refine blk_alloc ?_ _)); exact BK1697.out) hb); have n4_ := Aside0.mk (blk_below (g := gb1701) (o := .cells #[.int .i64 t1698, .int .i64 t1699] 95 (0, 0)) (by (with_reducible repeat (first | refine blk_drewN ?_ _ | refine blk_drew ?_ | refine blk_alloc ?_ _)); exact BK1701.out) hb); have n5_ := Aside0.mk (below_step (by repeat (first | (with_reducible first | exact HB.out | apply below_alloc | apply pw_below_drewN | apply below_drew1 | refine below_set ?_ GE1680.out | refine below_set ?_ GE1697.out | refine below_set ?_ GE1701.out) | exact HB.out)) hb); clear HO1706; clear HO1710; clear BK1680; clear BK1697; clear BK1701; clear HB; have HO1706 := n0_; have HO1710 := n1_; have BK1680 := n2_; have BK1697 := n3_; have BK1701 := n4_; have HB := n5_; clear n0_ n1_ n2_ n3_ n4_ n5_; (try clear hb); (try clear hb2); (try clear hk); (try clear hi)))
         go_ret
         exact ⟨by first | rfl | (simp [errW_none, errW_some] <;> rfl) | (simp [*, errW_none, errW_some] <;> rfl), by repeat (first | (with_reducible first | exact HB.out | apply below_alloc | apply pw_below_drewN | apply below_drew1 | refine below_set ?_ GE1680.out | refine below_set ?_ GE1697.out | refine below_set ?_ GE1701.out) | exact HB.out)⟩
        ·
         replace c99 := Bool.eq_false_iff.mpr c99
         subst c99
         rw [if_neg (show ¬ (false = true) by decide)] at H
         obtain rfl := Option.some.inj H
         go_wp2_with (first | ((with_reducible refine gate_callee (f := 63) rfl ?_); refine goesL_ (some 90) rfl rfl Try.func63 (by kernel_rfl) rfl #[.slice A0 l0.length c0] rfl (by (try simp only [List.map_toArray, List.map_cons, List.map_nil]); first | done | rfl | (simp only [List.length_drop, List.length_take]; rfl)) ?_; (with_reducible refine (spec_DrawScaleTempo.calls kj71 _ _ l0 t1703 t1704 _ ?side1 ?side2 A96.out).mono ?_); (case side1 => repeat (first | exact (Kd.C_below HR0.out HB.out) | (with_reducible refine Kd.C_alloc ?_ _) | (with_reducible refine Kd.C_drewN ?_ _) | (with_reducible refine Kd.C_drew ?_))); (case side2 => exact HC0.out); rintro e w106 ⟨v1705, rfl, ho0, hb⟩; refine ⟨_, rfl, ?_⟩; have n0_ := Aside0.mk (Kd.R_lower ho0 (below_size (by repeat (first | (with_reducible first | exact HB.out | apply below_alloc | apply pw_below_drewN | apply below_drew1 | refine below_set ?_ GE1680.out | refine below_set ?_ GE1697.out | refine below_set ?_ GE1701.out) | exact HB.out)))); have n1_ := Aside0.mk (blk_below (g := gb1680) (o := .cells #[.int .i64 t1677, .int .i64 t1678] 95 (0, 0)) (by (with_reducible repeat (first | refine blk_drewN ?_ _ | refine blk_drew ?_ | refine blk_alloc ?_ _)); exact BK1680.out) hb); have n2_ := Aside0.mk (blk_below (g := gb1697) (o := .cells #[.int .i64 t1695, .int .i64 t1696] 95 (0, 0)) (by (with_reducible repeat (first | refine blk_drewN ?_ _ | refine blk_drew ?_ | refine blk_alloc ?_ _)); exact BK1697.out) hb); have n3_ := Aside0.mk (blk_below (g := gb1701) (o := .cells #[.int .i64 t1698, .int .i64 t1699] 95 (0, 0)) (by (with_reducible repeat (first | refine blk_drewN ?_ _ | refine blk_drew ?_ | refine blk_alloc ?_ _)); exact BK1701.out) hb); have n4_ := Aside0.mk (below_step (by repeat (first | (with_reducible first | exact HB.out | apply below_alloc | apply pw_below_drewN | apply below_drew1 | refine below_set ?_ GE1680.out | refine below_set ?_ GE1697.out | refine below_set ?_ GE1701.out) | exact HB.out)) hb); clear BK1680; clear BK1697; clear BK1701; clear HB; have HO1706 := n0_; have BK1680 := n1_; have BK1697 := n2_; have BK1701 := n3_; have HB := n4_; clear n0_ n1_ n2_ n3_ n4_; (try clear hb); (try clear hb2); (try clear hk); (try clear hi); (try clear ho0); obtain ⟨Ao107, co107, eo107⟩ := Kd.R_slice HO1706.out; subst eo107) | ((with_reducible refine gate_callee (f := 64) rfl ?_); refine goesL_ (some 96) rfl rfl Try.func64 (by kernel_rfl) rfl #[.slice Ao107 t1703.length co107, .int .i64 t1704] rfl (by (try simp only [List.map_toArray, List.map_cons, List.map_nil]); first | done | rfl | (simp only [List.length_drop, List.length_take]; rfl)) ?_; (with_reducible refine (impl_ScaleTempo.calls kj71 _ _ t1703 t1704 t1707 false _ ?side1 ?side2 A97.out).mono ?_); (case side1 => repeat (first | exact (Kd.R_reads' HO1706.out).2.2 | (with_reducible refine Kd.C_alloc ?_ _) | (with_reducible refine Kd.C_drewN ?_ _) | (with_reducible refine Kd.C_drew ?_))); (case side2 => exact (Kd.R_reads' HO1706.out).2.1); rintro e w108 ⟨v1709, rfl, ho0, hb⟩; refine ⟨_, rfl, ?_⟩; have n0_ := Aside0.mk (Kd.R_elder' (by (with_reducible repeat (first | apply Kd.R_alloc | apply Kd.R_drewN | apply Kd.R_drew)); exact HO1706.out) (Kd.R_base ho0) hb); have n1_ := Aside0.mk (Kd.R_lower (Kd.R_new' ho0 (Kd.R_lt (by (with_reducible repeat (first | apply Kd.R_alloc | apply Kd.R_drewN | apply Kd.R_drew)); exact HO1706.out))) (below_size (by repeat (first | (with_reducible first | exact HB.out | apply below_alloc | apply pw_below_drewN | apply below_drew1 | refine below_set ?_ GE1680.out | refine below_set ?_ GE1697.out | refine below_set ?_ GE1701.out) | exact HB.out)))); have n2_ := Aside0.mk (blk_below (g := gb1680) (o := .cells #[.int .i64 t1677, .int .i64 t1678] 95 (0, 0)) (by (with_reducible repeat (first | refine blk_drewN ?_ _ | refine blk_drew ?_ | refine blk_alloc ?_ _)); exact BK1680.out) hb); have n3_ := Aside0.mk (blk_below (g := gb1697) (o := .cells #[.int .i64 t1695, .int .i64 t1696] 95 (0, 0)) (by (with_reducible repeat (first | refine blk_drewN ?_ _ | refine blk_drew ?_ | refine blk_alloc ?_ _)); exact BK1697.out) hb); have n4_ := Aside0.mk (blk_below (g := gb1701) (o := .cells #[.int .i64 t1698, .int .i64 t1699] 95 (0, 0)) (by (with_reducible repeat (first | refine blk_drewN ?_ _ | refine blk_drew ?_ | refine blk_alloc ?_ _)); exact BK1701.out) hb); have n5_ := Aside0.mk (below_step (by repeat (first | (with_reducible first | exact HB.out | apply below_alloc | apply pw_below_drewN | apply below_drew1 | refine below_set ?_ GE1680.out | refine below_set ?_ GE1697.out | refine below_set ?_ GE1701.out) | exact HB.out)) hb); clear HO1706; clear BK1680; clear BK1697; clear BK1701; clear HB; have HO1706 := n0_; have HO1710 := n1_; have BK1680 := n2_; have BK1697 := n3_; have BK1701 := n4_; have HB := n5_; clear n0_ n1_ n2_ n3_ n4_ n5_; (try clear hb); (try clear hb2); (try clear hk); (try clear hi); (try clear ho0); obtain ⟨Ao109, co109, eo109⟩ := Kd.R_slice HO1710.out; subst eo109))
         go_ret
         exact ⟨by first | rfl | (simp [errW_none, errW_some] <;> rfl) | (simp [*, errW_none, errW_some] <;> rfl), by repeat (first | (with_reducible first | exact HB.out | apply below_alloc | apply pw_below_drewN | apply below_drew1 | refine below_set ?_ GE1680.out | refine below_set ?_ GE1697.out | refine below_set ?_ GE1701.out) | exact HB.out)⟩
       ·
        rw [if_neg c98] at H
        have c98b0 : ((t1707.length : Int) == (t1703.length : Int)) = false := beq_eq_false_iff_ne.mpr c98
        have c98b1 : ((t1707.length : Int) != (t1703.length : Int)) = true := bne_iff_ne.mpr c98
        have c98b2 : (t1707.length == t1703.length) = false := by first | simpa using c98 | (simp at c98 ⊢; omega)
        obtain rfl := Option.some.inj H
        go_wp2_with (first | ((with_reducible refine gate_callee (f := 63) rfl ?_); refine goesL_ (some 90) rfl rfl Try.func63 (by kernel_rfl) rfl #[.slice A0 l0.length c0] rfl (by (try simp only [List.map_toArray, List.map_cons, List.map_nil]); first | done | rfl | (simp only [List.length_drop, List.length_take]; rfl)) ?_; (with_reducible refine (spec_DrawScaleTempo.calls kj71 _ _ l0 t1703 t1704 _ ?side1 ?side2 A96.out).mono ?_); (case side1 => repeat (first | exact (Kd.C_below HR0.out HB.out) | (with_reducible refine Kd.C_alloc ?_ _) | (with_reducible refine Kd.C_drewN ?_ _) | (with_reducible refine Kd.C_drew ?_))); (case side2 => exact HC0.out); rintro e w110 ⟨v1705, rfl, ho0, hb⟩; refine ⟨_, rfl, ?_⟩; have n0_ := Aside0.mk (Kd.R_lower ho0 (below_size (by repeat (first | (with_reducible first | exact HB.out | apply below_alloc | apply pw_below_drewN | apply below_drew1 | refine below_set ?_ GE1680.out | refine below_set ?_ GE1697.out | refine below_set ?_ GE1701.out) | exact HB.out)))); have n1_ := Aside0.mk (blk_below (g := gb1680) (o := .cells #[.int .i64 t1677, .int .i64 t1678] 95 (0, 0)) (by (with_reducible repeat (first | refine blk_drewN ?_ _ | refine blk_drew ?_ | refine blk_alloc ?_ _)); exact BK1680.out) hb); have n2_ := Aside0.mk (blk_below (g := gb1697) (o := .cells #[.int .i64 t1695, .int .i64 t1696] 95 (0, 0)) (by (with_reducible repeat (first | refine blk_drewN ?_ _ | refine blk_drew ?_ | refine blk_alloc ?_ _)); exact BK1697.out) hb); have n3_ := Aside0.mk (blk_below (g := gb1701) (o := .cells #[.int .i64 t1698, .int .i64 t1699] 95 (0, 0)) (by (with_reducible repeat (first | refine blk_drewN ?_ _ | refine blk_drew ?_ | refine blk_alloc ?_ _)); exact BK1701.out) hb); have n4_ := Aside0.mk (below_step (by repeat (first | (with_reducible first | exact HB.out | apply below_alloc | apply pw_below_drewN | apply below_drew1 | refine below_set ?_ GE1680.out | refine below_set ?_ GE1697.out | refine below_set ?_ GE1701.out) | exact HB.out)) hb); clear BK1680; clear BK1697; clear BK1701; clear HB; have HO1706 := n0_; have BK1680 := n1_; have BK1697 := n2_; have BK1701 := n3_; have HB := n4_; clear n0_ n1_ n2_ n3_ n4_; (try clear hb); (try clear hb2); (try clear hk); (try clear hi); (try clear ho0); obtain ⟨Ao111, co111, eo111⟩ := Kd.R_slice HO1706.out; subst eo111) | ((with_reducible refine gate_callee (f := 64) rfl ?_); refine goesL_ (some 96) rfl rfl Try.func64 (by kernel_rfl) rfl #[.slice Ao111 t1703.length co111, .int .i64 t1704] rfl (by (try simp only [List.map_toArray, List.map_cons, List.map_nil]); first | done | rfl | (simp only [List.length_drop, List.length_take]; rfl)) ?_; (with_reducible refine (impl_ScaleTempo.calls kj71 _ _ t1703 t1704 t1707 t1708 _ ?side1 ?side2 A97.out).mono ?_); (case side1 => repeat (first | exact (Kd.R_reads' HO1706.out).2.2 | (with_reducible refine Kd.C_alloc ?_ _) | (with_reducible refine Kd.C_drewN ?_ _) | (with_reducible refine Kd.C_drew ?_))); (case side2 => exact (Kd.R_reads' HO1706.out).2.1); rintro e w112 ⟨v1709, rfl, ho0, hb⟩; refine ⟨_, rfl, ?_⟩; have n0_ := Aside0.mk (Kd.R_elder' (by (with_reducible repeat (first | apply Kd.R_alloc | apply Kd.R_drewN | apply Kd.R_drew)); exact HO1706.out) (Kd.R_base ho0) hb); have n1_ := Aside0.mk (Kd.R_lower (Kd.R_new' ho0 (Kd.R_lt (by (with_reducible repeat (first | apply Kd.R_alloc | apply Kd.R_drewN | apply Kd.R_drew)); exact HO1706.out))) (below_size (by repeat (first | (with_reducible first | exact HB.out | apply below_alloc | apply pw_below_drewN | apply below_drew1 | refine below_set ?_ GE1680.out | refine below_set ?_ GE1697.out | refine below_set ?_ GE1701.out) | exact HB.out)))); have n2_ := Aside0.mk (blk_below (g := gb1680) (o := .cells #[.int .i64 t1677, .int .i64 t1678] 95 (0, 0)) (by (with_reducible repeat (first | refine blk_drewN ?_ _ | refine blk_drew ?_ | refine blk_alloc ?_ _)); exact BK1680.out) hb); have n3_ := Aside0.mk (blk_below (g := gb1697) (o := .cells #[.int .i64 t1695, .int .i64 t1696] 95 (0, 0)) (by (with_reducible repeat (first | refine blk_drewN ?_ _ | refine blk_drew ?_ | refine blk_alloc ?_ _)); exact BK1697.out) hb); have n4_ := Aside0.mk (blk_below (g := gb1701) (o := .cells #[.int .i64 t1698, .int .i64 t1699] 95 (0, 0)) (by (with_reducible repeat (first | refine blk_drewN ?_ _ | refine blk_drew ?_ | refine blk_alloc ?_ _)); exact BK1701.out) hb); have n5_ := Aside0.mk (below_step (by repeat (first | (with_reducible first | exact HB.out | apply below_alloc | apply pw_below_drewN | apply below_drew1 | refine below_set ?_ GE1680.out | refine below_set ?_ GE1697.out | refine below_set ?_ GE1701.out) | exact HB.out)) hb); clear HO1706; clear BK1680; clear BK1697; clear BK1701; clear HB; have HO1706 := n0_; have HO1710 := n1_; have BK1680 := n2_; have BK1697 := n3_; have BK1701 := n4_; have HB := n5_; clear n0_ n1_ n2_ n3_ n4_ n5_; (try clear hb); (try clear hb2); (try clear hk); (try clear hi); (try clear ho0); obtain ⟨Ao113, co113, eo113⟩ := Kd.R_slice HO1710.out; subst eo113))
        go_ret
        exact ⟨by first | rfl | (simp [errW_none, errW_some] <;> rfl) | (simp [*, errW_none, errW_some] <;> rfl), by repeat (first | (with_reducible first | exact HB.out | apply below_alloc | apply pw_below_drewN | apply below_drew1 | refine below_set ?_ GE1680.out | refine below_set ?_ GE1697.out | refine below_set ?_ GE1701.out) | exact HB.out)⟩
end Go.Proofs.Ytbhlmeghbfmgiaa.F

namespace Go.Proofs.Ytbhlmeghbfmgiaa.Opened
open Go.ChangeShapes Go.WideShapes Go.Deep Go.RowKit Go.Joins Go.Proofs.YtbhlmeghbfmgiaaW.PrintWords
set_option linter.unusedVariables false
def I64 (n : Int) : Prop := -9223372036854775808 ≤ n ∧ n ≤ 9223372036854775807
theorem i64_of {n : Int} (h : (Lit.int .i64 n).wf = true) : I64 n := bounds_i64 h
section
variable {H : Type} {enc : TypeId × Value → H} {P : Program} {w : World} {base : Nat} {spare : Nat → Bool} {held : Bool}
def Fits (enc : TypeId × Value → H) (P : Program) (w : World) (base : Nat) (spare : Nat → Bool) (held : Bool) (fs : Array Field) (vs : List Value) : Prop :=
  vs.length = fs.size ∧ ∀ (j : Nat) (f : Field) (v : Value), fs[j]? = some f → vs[j]? = some v → ∃ (n : Nat) (y : DataW H × List MemPlace), DataW.trod enc P w base spare held n f.type [v] = some y
theorem Fits.int {fs : Array Field} {vs : List Value} (h : Fits enc P w base spare held fs vs) {j : Nat} {f : Field} (hf : fs[j]? = some f) (ht : P.underlying f.type = some (.int .i64)) : ∃ n, vs[j]? = some (.int .i64 n) ∧ I64 n := by
  have hj : j < vs.length := by rw [h.1]; exact (Array.getElem?_eq_some_iff.1 hf).1
  obtain ⟨m, y, hy⟩ := h.2 j f _ hf (List.getElem?_eq_getElem hj)
  obtain ⟨n, e, _, hw⟩ := DataW.trod_int ht hy
  simp only [List.cons.injEq, and_true] at e
  exact ⟨n, by rw [List.getElem?_eq_getElem hj, e], i64_of hw⟩
theorem Fits.bool {fs : Array Field} {vs : List Value} (h : Fits enc P w base spare held fs vs) {j : Nat} {f : Field} (hf : fs[j]? = some f) (ht : P.underlying f.type = some .bool) : ∃ b, vs[j]? = some (.bool b) := by
  have hj : j < vs.length := by rw [h.1]; exact (Array.getElem?_eq_some_iff.1 hf).1
  obtain ⟨m, y, hy⟩ := h.2 j f _ hf (List.getElem?_eq_getElem hj)
  obtain ⟨n, e, _⟩ := DataW.trod_bool ht hy
  simp only [List.cons.injEq, and_true] at e
  exact ⟨n, by rw [List.getElem?_eq_getElem hj, e]⟩
theorem open_nums {k : IntKind} {t e : TypeId} {a : Option Addr} {len cap : Nat} {dd : DataW H} {ps : List MemPlace} (ht : P.underlying t = some (.slice e)) (he : P.underlying e = some (.int k)) (hC : P.cellsOf e = 1)
    (h : DataW.Trod enc P w base spare held t (.slice a len cap) dd ps) : ∃ l : List Int, l.length = len ∧ len ≤ cap ∧ (Kd.int k).C w a len l ∧ ∀ x ∈ l, (Lit.int k x).wf = true := by
  obtain ⟨fuel, hf⟩ := h
  rcases open_ints ht he hC hf with ⟨hcs, _⟩ | ⟨x, l, c, zs, hcs, _, hl, hm, hz, _, hcell, hwz⟩
  · simp [Value.cells] at hcs
    obtain ⟨rfl, rfl, rfl⟩ := hcs
    exact ⟨[], rfl, Nat.le_refl _, Kd.C_nil _ w, by simp⟩
  · simp [Value.cells] at hcs
    obtain ⟨rfl, rfl, rfl⟩ := hcs
    have hlz : len ≤ zs.length := by rw [hz]; split <;> omega
    refine ⟨zs.take len, by simp [hlz], hl, ⟨by simp [hlz], by unfold maxLen at hm; omega, fun _ => ⟨x, rfl, fun j p hj => ⟨[.int k p], rfl, rfl, fun i u hu => ?_⟩⟩⟩, fun y hy => hwz y (List.mem_of_mem_take hy)⟩
    have hjl := (List.getElem?_eq_some_iff.1 hj).1
    rw [List.length_take] at hjl
    have hi : i = 0 := by
      have := (List.getElem?_eq_some_iff.1 hu).1
      simp at this
      omega
    subst hi
    have hu' : Value.int k p = u := by simpa using hu
    rw [← hu', show (Kd.int k).sz = 1 from rfl, Nat.mul_one, Nat.add_zero, hcell j (by omega)]
    rw [List.getElem?_take_of_lt (by omega)] at hj
    simp [hj]
end
end Go.Proofs.Ytbhlmeghbfmgiaa.Opened

namespace Go.Proofs.Ytbhlmeghbfmgiaa.F
open Go.RowKit Go.Proofs.Ytbhlmeghbfmgiaa.Opened Go.Proofs.YtbhlmeghbfmgiaaW.PrintWords Go.Proofs.YtbhlmeghbfmgiaaW.PrintLast
set_option linter.unusedVariables false
set_option linter.unusedSimpArgs false
theorem w1 {n m : Nat} (h : n < m) (hm : m ≤ 9223372036854775807) : wrap64 ((n : Int) + 1) = ((n + 1 : Nat) : Int) := by unfold wrap64; omega
theorem wid {x : Int} (h0 : -9223372036854775808 ≤ x) (h1 : x ≤ 9223372036854775807) : wrap64 x = x := by unfold wrap64; omega
theorem set_take {α : Type} (acc : List α) (n : Nat) (v : α) (h : n < acc.length) : (acc.set n v).take (n + 1) = acc.take n ++ [v] := by
  rw [List.take_succ_eq_append_getElem (by simpa using h), List.take_set, List.set_eq_of_length_le (by rw [List.length_take]; omega)]
  simp
theorem rd_nat (xs : List Int) (n : Nat) (h : n < xs.length) : rd xs (n : Int) = xs[n] := by simp [rd, h]
theorem rdT151 (xs : List S151) (n : Nat) (h : n < xs.length) : rd_T151 xs (n : Int) = xs[n] := by simp [rd_T151, h]
end Go.Proofs.Ytbhlmeghbfmgiaa.F

namespace Go.Proofs.Ytbhlmeghbfmgiaa.F
open Go.RowKit Go.Proofs.Ytbhlmeghbfmgiaa.Opened Go.Proofs.YtbhlmeghbfmgiaaW.PrintWords Go.Proofs.YtbhlmeghbfmgiaaW.PrintLast Go.Proofs.YtbhlmeghbfmgiaaW.PrintMore
set_option linter.unusedVariables false
set_option linter.unusedSimpArgs false
theorem spec_l1In.ok (a b c : Int) : spec_l1In.f a b c = some (decide (b ≤ a ∧ a ≤ c)) := by
  unfold spec_l1In.f
  by_cases h : b ≤ a <;> simp [h]
theorem impl_InRange.ok (a b c : Int) : impl_InRange.f a b c = some (decide (b ≤ a ∧ a ≤ c)) := by
  unfold impl_InRange.f
  by_cases h : b ≤ a <;> simp [h]
end Go.Proofs.Ytbhlmeghbfmgiaa.F

namespace Go.Proofs.Ytbhlmeghbfmgiaa.F
open Go.RowKit Go.Proofs.Ytbhlmeghbfmgiaa.Opened Go.Proofs.YtbhlmeghbfmgiaaW.PrintWords Go.Proofs.YtbhlmeghbfmgiaaW.PrintLast Go.Proofs.YtbhlmeghbfmgiaaW.PrintMore
set_option linter.unusedVariables false
set_option linter.unusedSimpArgs false
abbrev Tmp := S151
def okT : Option Tmp → Tmp → Prop
  | none, e => (20 ≤ e.f1 ∧ e.f1 ≤ 300) ∧ (0 ≤ e.f0 ∧ e.f0 ≤ 2000) ∧ e.f0 = 0
  | some q, e => (20 ≤ e.f1 ∧ e.f1 ≤ 300) ∧ (0 ≤ e.f0 ∧ e.f0 ≤ 2000) ∧ q.f0 < e.f0
instance (p : Option Tmp) (e : Tmp) : Decidable (okT p e) := by cases p <;> (unfold okT; infer_instance)
def tpB : Option Tmp → List Tmp → Bool
  | _, [] => true
  | p, e :: l => decide (okT p e) && tpB (some e) l
def isTempoB (l : List Tmp) : Bool := tpB none l && decide (1 ≤ (l.length : Int) ∧ (l.length : Int) ≤ 8)
def prevT (l : List Tmp) (n : Nat) : Option Tmp := if n = 0 then none else l[n - 1]?
theorem prevT_next (l : List Tmp) (n : Nat) (h : n < l.length) : prevT l (n + 1) = some l[n] := by simp [prevT, h]
theorem prevT_pos (l : List Tmp) (n : Nat) (h0 : n ≠ 0) (h : n - 1 < l.length) : prevT l n = some l[n - 1] := by simp [prevT, h0, h]
theorem spec_IsTempo.loop (l : List Tmp) (hm : l.length ≤ 9223372036854775807) : ∀ (d k n : Nat), l.length - n ≤ d → d < k → spec_IsTempo.l0 k l (n : Int) = some (tpB (prevT l n) (l.drop n) && decide (1 ≤ (l.length : Int) ∧ (l.length : Int) ≤ 8)) := by
  intro d
  induction d with
  | zero =>
    intro k n hd hk
    obtain ⟨k, rfl⟩ : ∃ m, k = m + 1 := ⟨k - 1, by omega⟩
    simp only [spec_IsTempo.l0, spec_l1In.ok, Option.bind_some]
    rw [if_neg (by omega), List.drop_of_length_le (by omega)]
    simp [tpB]
  | succ d ih =>
    intro k n hd hk
    obtain ⟨k, rfl⟩ : ∃ m, k = m + 1 := ⟨k - 1, by omega⟩
    by_cases h : n < l.length
    · simp only [spec_IsTempo.l0, spec_l1In.ok, Option.bind_some]
      rw [if_pos (by omega), if_pos (by omega), rdT151 l n h, w1 h hm, List.drop_eq_getElem_cons h]
      have ih' := ih k (n + 1) (by omega) (by omega)
      rw [prevT_next l n h] at ih'
      by_cases c1 : 20 ≤ l[n].f1 ∧ l[n].f1 ≤ 300
      · by_cases c2 : 0 ≤ l[n].f0 ∧ l[n].f0 ≤ 2000
        · rw [if_pos (by simpa using c1), if_pos (by simpa using c2)]
          by_cases c3 : n = 0
          · subst c3
            by_cases c4 : l[0].f0 = 0
            · rw [if_pos (by omega), if_pos c4, if_neg (by omega), ih']
              simp [prevT, tpB, okT, c1, c4]
            · rw [if_pos (by omega), if_neg c4]
              simp [prevT, tpB, okT, c4]
          · have e : wrap64 ((n : Int) - 1) = ((n - 1 : Nat) : Int) := by unfold wrap64; omega
            rw [if_neg (by omega), if_pos (by omega), e, if_pos (by omega), if_pos (by omega), rdT151 l (n - 1) (by omega), prevT_pos l n c3 (by omega), ih']
            by_cases c4 : l[n - 1].f0 ≥ l[n].f0
            · rw [if_pos c4]
              have : ¬ l[n - 1].f0 < l[n].f0 := by omega
              simp [tpB, okT, this]
            · rw [if_neg c4]
              have : l[n - 1].f0 < l[n].f0 := by omega
              simp [tpB, okT, c1, c2, this]
        · rw [if_pos (by simpa using c1), if_neg (by simpa using c2)]
          cases prevT l n <;> simp [tpB, okT, c2]
      · rw [if_neg (by simpa using c1)]
        cases prevT l n <;> simp [tpB, okT, c1]
    · simp only [spec_IsTempo.l0, spec_l1In.ok, Option.bind_some]
      rw [if_neg (by omega), List.drop_of_length_le (by omega)]
      simp [tpB]
theorem spec_IsTempo.ok (l : List Tmp) (hm : l.length ≤ 9223372036854775807) (k : Nat) (hk : l.length < k) : spec_IsTempo.f k l = some (isTempoB l) := by
  unfold spec_IsTempo.f
  exact spec_IsTempo.loop l hm l.length k 0 (by omega) hk
theorem impl_IsTempo.loop (l : List Tmp) (hm : l.length ≤ 9223372036854775807) : ∀ (d k n : Nat), l.length - n ≤ d → d < k → (∀ q, prevT l n = some q → 0 ≤ q.f0) → impl_IsTempo.l0 k l l l.length (n : Int) = some (tpB (prevT l n) (l.drop n) && decide (1 ≤ (l.length : Int) ∧ (l.length : Int) ≤ 8)) := by
  intro d
  induction d with
  | zero =>
    intro k n hd hk hp
    obtain ⟨k, rfl⟩ : ∃ m, k = m + 1 := ⟨k - 1, by omega⟩
    simp only [impl_IsTempo.l0, impl_InRange.ok, Option.bind_some]
    rw [if_neg (by omega), List.drop_of_length_le (by omega)]
    simp [tpB]
  | succ d ih =>
    intro k n hd hk hp
    obtain ⟨k, rfl⟩ : ∃ m, k = m + 1 := ⟨k - 1, by omega⟩
    by_cases h : n < l.length
    · simp only [impl_IsTempo.l0, impl_InRange.ok, Option.bind_some]
      rw [if_pos (by omega), if_pos (by omega), if_pos (by omega), rdT151 l n h, w1 h hm, List.drop_eq_getElem_cons h]
      have ih' := ih k (n + 1) (by omega) (by omega)
      rw [prevT_next l n h] at ih'
      by_cases c3 : n = 0
      · subst c3
        rw [if_pos (by omega)]
        by_cases c4 : l[0].f0 = 0
        · rw [if_pos c4, if_neg (by omega), if_neg (by omega)]
          by_cases c1 : (20 : Int) ≤ l[0].f1 ∧ l[0].f1 ≤ (300 : Int)
          · rw [if_pos (by simpa using c1), ih' (fun q hq => by obtain rfl := Option.some.inj hq; omega)]
            simp [prevT, tpB, okT, c1, c4]
          · rw [if_neg (by simpa using c1)]
            simp [prevT, tpB, okT, c1]
        · rw [if_neg c4]
          simp [prevT, tpB, okT, c4]
      · have e : wrap64 ((n : Int) - 1) = ((n - 1 : Nat) : Int) := by unfold wrap64; omega
        rw [if_neg (by omega), if_pos (by omega), e, if_pos (by omega), if_pos (by omega), rdT151 l (n - 1) (by omega), prevT_pos l n c3 (by omega)]
        have hq := hp _ (prevT_pos l n c3 (by omega))
        by_cases c4 : l[n - 1].f0 ≥ l[n].f0
        · rw [if_pos c4]
          have : ¬ l[n - 1].f0 < l[n].f0 := by omega
          simp [tpB, okT, this]
        · have c5 : l[n - 1].f0 < l[n].f0 := by omega
          rw [if_neg c4]
          by_cases c6 : l[n].f0 > 2000
          · rw [if_pos c6]
            have : ¬ (0 ≤ l[n].f0 ∧ l[n].f0 ≤ 2000) := by omega
            simp [tpB, okT, this]
          · rw [if_neg c6]
            by_cases c1 : 20 ≤ l[n].f1 ∧ l[n].f1 ≤ 300
            · rw [if_pos (by simpa using c1), ih' (fun q hq' => by obtain rfl := Option.some.inj hq'; omega)]
              have c2 : 0 ≤ l[n].f0 ∧ l[n].f0 ≤ 2000 := by omega
              simp [tpB, okT, c1, c2, c5]
            · rw [if_neg (by simpa using c1)]
              simp [tpB, okT, c1]
    · simp only [impl_IsTempo.l0, impl_InRange.ok, Option.bind_some]
      rw [if_neg (by omega), List.drop_of_length_le (by omega)]
      simp [tpB]
theorem impl_IsTempo.ok (l : List Tmp) (hm : l.length ≤ 9223372036854775807) (k : Nat) (hk : l.length < k) : impl_IsTempo.f k l = some (isTempoB l) := by
  unfold impl_IsTempo.f
  exact impl_IsTempo.loop l hm l.length k 0 (by omega) hk (fun q hq => by simp [prevT] at hq)
end Go.Proofs.Ytbhlmeghbfmgiaa.F

namespace Go.Proofs.Ytbhlmeghbfmgiaa.F
open Go.RowKit Go.Proofs.Ytbhlmeghbfmgiaa.Opened Go.Proofs.YtbhlmeghbfmgiaaW.PrintWords Go.Proofs.YtbhlmeghbfmgiaaW.PrintLast Go.Proofs.YtbhlmeghbfmgiaaW.PrintMore
set_option linter.unusedVariables false
set_option linter.unusedSimpArgs false
def gI (n d : Int) : Int := ((Nat.gcd n.natAbs d.natAbs : Nat) : Int)
theorem gI_pos (n d : Int) (hd : 0 < d) : 0 < gI n d := by
  have : 0 < Nat.gcd n.natAbs d.natAbs := Nat.gcd_pos_of_pos_right _ (by omega)
  unfold gI
  omega
theorem gcd_step (a b : Nat) : Nat.gcd b (a % b) = Nat.gcd a b := by rw [Nat.gcd_comm b (a % b), ← Nat.gcd_rec, Nat.gcd_comm]
theorem tmod_nat (a b : Nat) : Int.tmod (a : Int) (b : Int) = ((a % b : Nat) : Int) := rfl
theorem mulB {a b : Int} {A B : Nat} (ha : a.natAbs ≤ A) (hb : b.natAbs ≤ B) : (a * b).natAbs ≤ A * B := by
  rw [Int.natAbs_mul]
  exact Nat.mul_le_mul ha hb
theorem wN {x : Int} (h : x.natAbs ≤ 9223372036854775807) : wrap64 x = x := wid (by omega) (by omega)
theorem tdivB (a b : Int) : (Int.tdiv a b).natAbs ≤ a.natAbs := by
  rw [Int.natAbs_tdiv]
  exact Nat.div_le_self _ _
theorem wT {a b : Int} (h : a.natAbs ≤ 9223372036854775807) : wrap64 (Int.tdiv a b) = Int.tdiv a b := wN (Nat.le_trans (tdivB a b) h)
theorem mxAbs {a : Int} (h : a.natAbs ≤ 9223372036854775807) : mx a (wrap64 (-a)) = (a.natAbs : Int) := by
  unfold mx wrap64
  split <;> omega
theorem spec_l4Gcd.loop : ∀ (m a b k : Nat), b ≤ m → m < k → spec_l4Gcd.l0 k (a : Int) (b : Int) = some ((Nat.gcd a b : Nat) : Int) := by
  intro m
  induction m with
  | zero =>
    intro a b k hb hk
    obtain ⟨k, rfl⟩ : ∃ m, k = m + 1 := ⟨k - 1, by omega⟩
    have : b = 0 := by omega
    subst this
    simp [spec_l4Gcd.l0]
  | succ m ih =>
    intro a b k hb hk
    obtain ⟨k, rfl⟩ : ∃ m, k = m + 1 := ⟨k - 1, by omega⟩
    by_cases h : b = 0
    · subst h
      simp [spec_l4Gcd.l0]
    · have hlt : a % b < b := Nat.mod_lt _ (by omega)
      simp only [spec_l4Gcd.l0]
      rw [if_neg (by omega), tmod_nat, ih b (a % b) k (by omega) (by omega), gcd_step]
theorem impl_divisor.loop : ∀ (m a b k : Nat), b ≤ m → m < k → impl_divisor.l0 k (a : Int) (b : Int) = some ((Nat.gcd a b : Nat) : Int) := by
  intro m
  induction m with
  | zero =>
    intro a b k hb hk
    obtain ⟨k, rfl⟩ : ∃ m, k = m + 1 := ⟨k - 1, by omega⟩
    have : b = 0 := by omega
    subst this
    simp [impl_divisor.l0]
  | succ m ih =>
    intro a b k hb hk
    obtain ⟨k, rfl⟩ : ∃ m, k = m + 1 := ⟨k - 1, by omega⟩
    by_cases h : b = 0
    · subst h
      simp [impl_divisor.l0]
    · have hlt : a % b < b := Nat.mod_lt _ (by omega)
      simp only [impl_divisor.l0]
      rw [if_neg (by omega), tmod_nat, ih b (a % b) k (by omega) (by omega), gcd_step]
theorem spec_l4Gcd.ok (n d : Int) (hd : 0 ≤ d) (k : Nat) (hk : d.natAbs < k) : spec_l4Gcd.f k (n.natAbs : Int) d = some (gI n d) := by
  obtain ⟨m, rfl⟩ := Int.eq_ofNat_of_zero_le hd
  exact spec_l4Gcd.loop m n.natAbs m k (Nat.le_refl m) (by simpa using hk)
theorem spec_l4Gcd.ok' (n d : Int) (hn : 0 ≤ n) (hd : 0 ≤ d) (k : Nat) (hk : d.natAbs < k) : spec_l4Gcd.f k n d = some (gI n d) := by
  rw [← spec_l4Gcd.ok n d hd k hk]
  congr 1
  omega
theorem impl_divisor.ok (n d : Int) (hd : 0 ≤ d) (k : Nat) (hk : d.natAbs < k) : impl_divisor.f k (n.natAbs : Int) d = some (gI n d) := by
  obtain ⟨m, rfl⟩ := Int.eq_ofNat_of_zero_le hd
  exact impl_divisor.loop m n.natAbs m k (Nat.le_refl m) (by simpa using hk)
theorem spec_l4Abs.ok (a : Int) (h : a.natAbs ≤ 9223372036854775807) : spec_l4Abs.f a = some (a.natAbs : Int) := by
  unfold spec_l4Abs.f
  have e := @wN (-a) (by omega)
  rw [e]
  split
  · congr 1
    omega
  · congr 1
    omega
def isRB (n d : Int) : Bool := decide (1 ≤ d ∧ d ≤ 1000000) && (decide (-1000000000 ≤ n ∧ n ≤ 1000000000) && (gI n d == 1))
theorem isRB_b {n d : Int} (h : isRB n d = true) : (1 ≤ d ∧ d ≤ 1000000) ∧ (-1000000000 ≤ n ∧ n ≤ 1000000000) ∧ gI n d = 1 := by
  unfold isRB at h
  simp only [Bool.and_eq_true, decide_eq_true_eq, beq_iff_eq] at h
  exact h
theorem spec_IsRatio.ok (n d : Int) (k : Nat) (hk : 1000000 < k) : spec_IsRatio.f k n d = some (isRB n d) := by
  unfold spec_IsRatio.f isRB
  rw [spec_l1In.ok, spec_l1In.ok]
  simp only [Option.bind_some]
  by_cases c1 : (1 : Int) ≤ d ∧ d ≤ 1000000
  · by_cases c2 : (-1000000000 : Int) ≤ n ∧ n ≤ 1000000000
    · rw [if_pos (by simpa using c1), if_pos (by simpa using c2), spec_l4Abs.ok n (by omega)]
      simp only [Option.bind_some]
      rw [spec_l4Gcd.ok n d (by omega) k (by omega)]
      simp [c1, c2]
    · rw [if_pos (by simpa using c1), if_neg (by simpa using c2)]
      simp only [c2, decide_false, Bool.false_and, Bool.and_false]
  · rw [if_neg (by simpa using c1)]
    simp only [c1, decide_false, Bool.false_and]
theorem impl_IsRatio.ok (n d : Int) (k : Nat) (hk : 1000000 < k) : impl_IsRatio.f k n d = some (isRB n d) := by
  unfold impl_IsRatio.f isRB
  rw [impl_InRange.ok, impl_InRange.ok]
  simp only [Option.bind_some]
  by_cases c1 : (1 : Int) ≤ d ∧ d ≤ 1000000
  · by_cases c2 : (-1000000000 : Int) ≤ n ∧ n ≤ 1000000000
    · rw [if_pos (by simpa using c1), if_pos (by simpa using c2), mxAbs (by omega)]
      rw [impl_divisor.ok n d (by omega) k (by omega)]
      simp [c1, c2]
    · rw [if_pos (by simpa using c1), if_neg (by simpa using c2)]
      simp only [c2, decide_false, Bool.false_and, Bool.and_false]
  · rw [if_neg (by simpa using c1)]
    simp only [c1, decide_false, Bool.false_and]
def noR : Int × Int × Bool := (0, 0, false)
def lowC (n d : Int) : Int × Int × Bool := if isRB (Int.tdiv n (gI n d)) (Int.tdiv d (gI n d)) = true then (Int.tdiv n (gI n d), Int.tdiv d (gI n d), true) else noR
def lowP (n d : Int) : Int × Int × Bool := if d < 0 then lowC (-n) (-d) else (if d = 0 then noR else lowC n d)
theorem lowC_scale (g n d : Int) (hg : 0 < g) : lowC (g * n) (g * d) = lowC n d := by
  have e : gI (g * n) (g * d) = g * gI n d := by
    unfold gI
    rw [Int.natAbs_mul, Int.natAbs_mul, Nat.gcd_mul_left, Int.natCast_mul]
    congr 1
    omega
  unfold lowC
  rw [e, Int.mul_tdiv_mul_of_pos _ _ hg, Int.mul_tdiv_mul_of_pos _ _ hg]
theorem impl_lowest.j0_ok (n d : Int) (hn : n.natAbs ≤ 1000000000000000000) (hd : 0 ≤ d) (hd' : d ≤ 1000000000000000) (k : Nat) (hk : 1000000000000001 < k) : impl_lowest.j0 k n d = some (if d = 0 then noR else lowC n d) := by
  obtain ⟨k, rfl⟩ : ∃ m, k = m + 1 := ⟨k - 1, by omega⟩
  simp only [impl_lowest.j0]
  by_cases h0 : d = 0
  · rw [if_pos h0, if_pos h0]
    rfl
  · have hg := gI_pos n d (by omega)
    rw [if_neg h0, if_neg h0, mxAbs (by omega), impl_divisor.ok n d hd k (by omega)]
    simp only [Option.bind_some]
    rw [if_neg (by omega), wT (by omega), wT (by omega), impl_IsRatio.ok _ _ k (by omega)]
    simp only [Option.bind_some]
    unfold lowC noR
    split <;> rfl
theorem impl_lowest.ok (n d : Int) (hn : n.natAbs ≤ 1000000000000000000) (hd : d.natAbs ≤ 1000000000000000) (k : Nat) (hk : 1000000000000001 < k) : impl_lowest.f k n d = some (lowP n d) := by
  unfold impl_lowest.f lowP
  by_cases h : d < 0
  · rw [if_pos h, if_pos h, @wN (-n) (by omega), @wN (-d) (by omega), impl_lowest.j0_ok (-n) (-d) (by omega) (by omega) (by omega) k hk, if_neg (by omega)]
  · rw [if_neg h, if_neg h, impl_lowest.j0_ok n d hn (by omega) (by omega) k hk]
def makeR (n d : Int) : Int × Int × Bool := if ((-1000000000000000 : Int) ≤ n ∧ n ≤ 1000000000000000) ∧ ((-1000000000000000 : Int) ≤ d ∧ d ≤ 1000000000000000) then lowP n d else noR
theorem impl_MakeRatio.ok (n d : Int) (k : Nat) (hk : 1000000000000001 < k) : impl_MakeRatio.f k n d = some (makeR n d) := by
  unfold impl_MakeRatio.f makeR
  rw [impl_InRange.ok, impl_InRange.ok]
  simp only [Option.bind_some]
  by_cases c1 : (-1000000000000000 : Int) ≤ n ∧ n ≤ 1000000000000000
  · by_cases c2 : (-1000000000000000 : Int) ≤ d ∧ d ≤ 1000000000000000
    · rw [if_pos (by simpa using c1), if_pos (by simpa using c2), if_pos ⟨c1, c2⟩, impl_lowest.ok n d (by omega) (by omega) k hk]
      rfl
    · rw [if_pos (by simpa using c1), if_neg (by simpa using c2), if_neg (fun h => c2 h.2)]
      rfl
  · rw [if_neg (by simpa using c1), if_neg (fun h => c1 h.1)]
    rfl
theorem spec_MakeRatio.j1_ok (n d : Int) (hn : n.natAbs ≤ 1000000000000000000) (hd : 0 < d) (hd' : d ≤ 1000000000000000) (k : Nat) (hk : 1000000000000001 < k) : spec_MakeRatio.j1 k n d = some (lowC n d) := by
  obtain ⟨k, rfl⟩ : ∃ m, k = m + 1 := ⟨k - 1, by omega⟩
  have hg := gI_pos n d (by omega)
  simp only [spec_MakeRatio.j1]
  rw [spec_l4Abs.ok n (by omega)]
  simp only [Option.bind_some]
  rw [spec_l4Gcd.ok n d (by omega) k (by omega)]
  simp only [Option.bind_some]
  rw [if_neg (by omega), wT (by omega), wT (by omega), spec_IsRatio.ok _ _ k (by omega)]
  simp only [Option.bind_some]
  unfold lowC noR
  split <;> rfl
theorem spec_MakeRatio.ok (n d : Int) (k : Nat) (hk : 1000000000000002 < k) : spec_MakeRatio.f k n d = some (makeR n d) := by
  obtain ⟨k, rfl⟩ : ∃ m, k = m + 1 := ⟨k - 1, by omega⟩
  unfold spec_MakeRatio.f makeR
  rw [spec_l1In.ok, spec_l1In.ok]
  simp only [Option.bind_some, spec_MakeRatio.j0]
  by_cases c1 : (-1000000000000000 : Int) ≤ n ∧ n ≤ 1000000000000000
  · by_cases c2 : (-1000000000000000 : Int) ≤ d ∧ d ≤ 1000000000000000
    · have hc : ((-1000000000000000 : Int) ≤ n ∧ n ≤ 1000000000000000) ∧ ((-1000000000000000 : Int) ≤ d ∧ d ≤ 1000000000000000) := ⟨c1, c2⟩
      rw [if_pos (by simpa using c1), if_pos (by simpa using c2), if_pos hc]
      unfold lowP
      by_cases h0 : d = 0
      · have h0' : (d == 0) = true := by simpa using h0
        rw [if_pos h0', if_neg (by omega), if_pos h0]
        rfl
      · have h0' : ¬ (d == 0) = true := by simpa using h0
        rw [if_neg h0']
        by_cases h : d < 0
        · rw [if_pos h, if_pos h, @wN (-n) (by omega), @wN (-d) (by omega), spec_MakeRatio.j1_ok (-n) (-d) (by omega) (by omega) (by omega) k (by omega)]
        · rw [if_neg h, if_neg h, if_neg h0, spec_MakeRatio.j1_ok n d (by omega) (by omega) (by omega) k (by omega)]
    · have hc : ¬ (((-1000000000000000 : Int) ≤ n ∧ n ≤ 1000000000000000) ∧ ((-1000000000000000 : Int) ≤ d ∧ d ≤ 1000000000000000)) := fun h => c2 h.2
      rw [if_pos (by simpa using c1), if_neg (by simpa using c2), if_neg hc, if_pos trivial]
      rfl
  · have hc : ¬ (((-1000000000000000 : Int) ≤ n ∧ n ≤ 1000000000000000) ∧ ((-1000000000000000 : Int) ≤ d ∧ d ≤ 1000000000000000)) := fun h => c1 h.1
    rw [if_neg (by simpa using c1), if_neg hc, if_pos trivial]
    rfl
theorem lowC_no {n d : Int} (h : (lowC n d).2.2 = false) : lowC n d = noR := by
  unfold lowC at *
  split at h
  · simp at h
  · rename_i c
    rw [if_neg c]
theorem makeR_no {n d : Int} (h : (makeR n d).2.2 = false) : makeR n d = noR := by
  unfold makeR lowP at *
  split at h
  · rename_i c
    rw [if_pos c]
    split at h
    · rename_i c
      rw [if_pos c]
      exact lowC_no h
    · rename_i c
      rw [if_neg c]
      split at h
      · rename_i c
        rw [if_pos c]
      · rename_i c
        rw [if_neg c]
        exact lowC_no h
  · rename_i c
    rw [if_neg c]
def addR (an ad bn bd : Int) : Int × Int × Bool := if isRB an ad = true ∧ isRB bn bd = true then lowP (an * bd + bn * ad) (ad * bd) else noR
theorem impl_AddRatio.ok (an ad bn bd : Int) (k : Nat) (hk : 1000000000000001 < k) : impl_AddRatio.f k an ad bn bd = some (addR an ad bn bd) := by
  unfold impl_AddRatio.f addR
  rw [impl_IsRatio.ok an ad k (by omega), impl_IsRatio.ok bn bd k (by omega)]
  simp only [Option.bind_some]
  by_cases h1 : isRB an ad = true
  · by_cases h2 : isRB bn bd = true
    · obtain ⟨a1, a2, a3⟩ := isRB_b h1
      obtain ⟨b1, b2, b3⟩ := isRB_b h2
      have m1 : (an * bd).natAbs ≤ 1000000000 * 1000000 := mulB (by omega) (by omega)
      have m2 : (bn * ad).natAbs ≤ 1000000000 * 1000000 := mulB (by omega) (by omega)
      have m3 : (ad * bd).natAbs ≤ 1000000 * 1000000 := mulB (by omega) (by omega)
      rw [if_pos h1, if_pos h2, if_pos ⟨h1, h2⟩, wN (x := an * bd) (by omega), wN (x := bn * ad) (by omega), wN (x := ad * bd) (by omega), wN (x := an * bd + bn * ad) (by omega), impl_lowest.ok _ _ (by omega) (by omega) k hk]
      rfl
    · rw [if_pos h1, if_neg h2, if_neg (fun h => h2 h.2)]
      rfl
  · rw [if_neg h1, if_neg (fun h => h1 h.1)]
    rfl
theorem posR {g x : Int} (hg : 0 < g) (h : 0 < g * x) : 0 < x := by
  by_cases hx : 0 < x
  · exact hx
  · exfalso
    have : g * x ≤ g * 0 := Int.mul_le_mul_of_nonneg_left (by omega) (by omega)
    rw [Int.mul_zero] at this
    omega
theorem gI_dvd_left (n d : Int) : gI n d ∣ n := by
  unfold gI
  exact Int.ofNat_dvd_left.mpr (Nat.gcd_dvd_left _ _)
theorem gI_dvd_right (n d : Int) : gI n d ∣ d := by
  unfold gI
  exact Int.ofNat_dvd_left.mpr (Nat.gcd_dvd_right _ _)
theorem spec_AddRatio.ok (an ad bn bd : Int) (k : Nat) (hk : 1000000000000002 < k) : spec_AddRatio.f k an ad bn bd = some (addR an ad bn bd) := by
  obtain ⟨k, rfl⟩ : ∃ m, k = m + 1 := ⟨k - 1, by omega⟩
  unfold spec_AddRatio.f addR
  rw [spec_IsRatio.ok an ad _ (by omega), spec_IsRatio.ok bn bd _ (by omega)]
  simp only [Option.bind_some, spec_AddRatio.j0]
  by_cases h1 : isRB an ad = true
  · by_cases h2 : isRB bn bd = true
    · obtain ⟨a1, a2, a3⟩ := isRB_b h1
      obtain ⟨b1, b2, b3⟩ := isRB_b h2
      have hg := gI_pos ad bd (by omega)
      have d1 := Int.mul_tdiv_cancel' (gI_dvd_left ad bd)
      have d2 := Int.mul_tdiv_cancel' (gI_dvd_right ad bd)
      have t1 := tdivB ad (gI ad bd)
      have t2 := tdivB bd (gI ad bd)
      have hp : 0 < Int.tdiv ad (gI ad bd) * bd := by
        have : 0 < gI ad bd * Int.tdiv ad (gI ad bd) := by omega
        exact Int.mul_pos (posR hg this) (by omega)
      rw [if_pos h1, if_neg (by rw [h2]; simp), if_pos ⟨h1, h2⟩, spec_l4Gcd.ok' ad bd (by omega) (by omega) k (by omega)]
      simp only [Option.bind_some]
      rw [if_neg (by omega), wT (by omega), wT (by omega)]
      have e1 : an * bd + bn * ad = gI ad bd * (an * Int.tdiv bd (gI ad bd) + bn * Int.tdiv ad (gI ad bd)) := by
        rw [Int.mul_add, ← Int.mul_assoc, ← Int.mul_assoc, Int.mul_comm (gI ad bd) an, Int.mul_comm (gI ad bd) bn, Int.mul_assoc, Int.mul_assoc, d1, d2]
      have e2 : ad * bd = gI ad bd * (Int.tdiv ad (gI ad bd) * bd) := by rw [← Int.mul_assoc, d1]
      have hd : ¬ ad * bd < 0 := by
        have := Int.mul_pos (show 0 < ad by omega) (show 0 < bd by omega)
        omega
      have hd' : ¬ ad * bd = 0 := by
        have := Int.mul_pos (show 0 < ad by omega) (show 0 < bd by omega)
        omega
      unfold lowP
      rw [if_neg hd, if_neg hd', e1, e2, lowC_scale _ _ _ hg]
      generalize hx : Int.tdiv ad (gI ad bd) = x at *
      generalize hy : Int.tdiv bd (gI ad bd) = y at *
      have m1 : (an * y).natAbs ≤ 1000000000 * 1000000 := mulB (by omega) (by omega)
      have m2 : (bn * x).natAbs ≤ 1000000000 * 1000000 := mulB (by omega) (by omega)
      have m3 : (x * bd).natAbs ≤ 1000000 * 1000000 := mulB (by omega) (by omega)
      rw [wN (x := an * y) (by omega), wN (x := bn * x) (by omega), wN (x := x * bd) (by omega), wN (x := an * y + bn * x) (by omega), spec_l4Abs.ok _ (by omega)]
      simp only [Option.bind_some]
      rw [spec_l4Gcd.ok _ _ (by omega) k (by omega)]
      simp only [Option.bind_some]
      have hg' := gI_pos (an * y + bn * x) (x * bd) hp
      rw [if_neg (by omega), wT (by omega), wT (by omega), spec_IsRatio.ok _ _ k (by omega)]
      simp only [Option.bind_some]
      unfold lowC noR
      split <;> rfl
    · rw [if_pos h1, if_pos (by simpa using h2), if_neg (fun h => h2 h.2)]
      rfl
  · rw [if_neg h1, if_pos trivial, if_neg (fun h => h1 h.1)]
    rfl
theorem addR_noR (an ad : Int) : addR an ad 0 0 = noR := by
  unfold addR
  rw [if_neg]
  intro h
  have := isRB_b h.2
  omega
end Go.Proofs.Ytbhlmeghbfmgiaa.F

namespace Go.Proofs.Ytbhlmeghbfmgiaa.F
open Go.RowKit Go.Proofs.Ytbhlmeghbfmgiaa.Opened Go.Proofs.YtbhlmeghbfmgiaaW.PrintWords Go.Proofs.YtbhlmeghbfmgiaaW.PrintLast Go.Proofs.YtbhlmeghbfmgiaaW.PrintMore
set_option linter.unusedVariables false
set_option linter.unusedSimpArgs false
def endT (t : Int) : List Tmp → Int
  | [] => t
  | f :: _ => mn t f.f0
def partT (t : Int) (e : Tmp) (l : List Tmp) : Int × Int × Bool := makeR (wrap64 (wrap64 (endT t l - e.f0) * 5000)) e.f1
def timeL (t : Int) : Int → Int → List Tmp → Int × Int × Bool
  | n, d, [] => (n, d, true)
  | n, d, e :: l => if e.f0 < t then (if (addR n d (partT t e l).1 (partT t e l).2.1).2.2 = true then timeL t (addR n d (partT t e l).1 (partT t e l).2.1).1 (addR n d (partT t e l).1 (partT t e l).2.1).2.1 l else noR) else (n, d, true)
def timeOf (l : List Tmp) (t : Int) : Int × Int × Bool := if isTempoB l = true ∧ (0 ≤ t ∧ t ≤ 2000) then timeL t 0 1 l else noR
theorem tpB_lt : ∀ (l : List Tmp) (p : Option Tmp), tpB p l = true → ∀ i (h : i + 1 < l.length), (l[i]'(by omega)).f0 < l[i + 1].f0 := by
  intro l
  induction l with
  | nil => intro p hp i h; simp at h
  | cons e l ih =>
    intro p hp i h
    simp only [tpB, Bool.and_eq_true, decide_eq_true_eq] at hp
    cases i with
    | zero =>
      cases l with
      | nil => simp at h
      | cons f l =>
        have h2 := hp.2
        simp only [tpB, Bool.and_eq_true] at h2
        have h3 : (20 ≤ f.f1 ∧ f.f1 ≤ 300) ∧ (0 ≤ f.f0 ∧ f.f0 ≤ 2000) ∧ e.f0 < f.f0 := of_decide_eq_true h2.1
        simpa using h3.2.2
    | succ i => exact ih _ hp.2 i (by simpa using h)
theorem isTempoB_lt {l : List Tmp} (hs : isTempoB l = true) (i : Nat) (h : i + 1 < l.length) : (l[i]'(by omega)).f0 < l[i + 1].f0 := by
  unfold isTempoB at hs
  simp only [Bool.and_eq_true] at hs
  exact tpB_lt l none hs.1 i h
theorem endT_drop (t : Int) (l : List Tmp) (n : Nat) : endT t (l.drop n) = if h : n < l.length then mn t l[n].f0 else t := by
  by_cases h : n < l.length
  · rw [dif_pos h, List.drop_eq_getElem_cons h]
    rfl
  · rw [dif_neg h, List.drop_of_length_le (by omega)]
    rfl
theorem spec_Min.ok' (a b : Int) : spec_Min.f a b = some (mn a b) := by
  unfold spec_Min.f mn
  by_cases h : b < a <;> simp [h]
theorem spec_TimeOf.loop (l : List Tmp) (t : Int) (hm : l.length ≤ 1048576) : ∀ (d k n : Nat) (a b : Int), l.length - n ≤ d → 3 * d + 1000000000000010 < k → spec_TimeOf.l0 k l t (n : Int) a b = some (timeL t a b (l.drop n)) := by
  intro d
  induction d with
  | zero =>
    intro k n a b hd hk
    obtain ⟨k, rfl⟩ : ∃ m, k = m + 2 := ⟨k - 2, by omega⟩
    simp only [spec_TimeOf.l0, spec_TimeOf.j2]
    rw [if_neg (by omega), List.drop_of_length_le (by omega)]
    simp [timeL]
  | succ d ih =>
    intro k n a b hd hk
    obtain ⟨k, rfl⟩ : ∃ m, k = m + 3 := ⟨k - 3, by omega⟩
    by_cases h : n < l.length
    · simp only [spec_TimeOf.l0]
      rw [if_pos (by omega), if_pos (by omega), rdT151 l n h, List.drop_eq_getElem_cons h]
      simp only [spec_TimeOf.j2, timeL]
      by_cases c : l[n].f0 < t
      · have e : (if wrap64 ((n : Int) + 1) < (l.length : Int) then (if 0 ≤ wrap64 ((n : Int) + 1) then (spec_Min.f t (rd_T151 l (wrap64 ((n : Int) + 1))).f0).bind fun x => spec_TimeOf.j3 (k + 1) l t n x a b else none) else spec_TimeOf.j3 (k + 1) l t n t a b) = spec_TimeOf.j3 (k + 1) l t n (endT t (l.drop (n + 1))) a b := by
          rw [w1 h (by omega), endT_drop]
          by_cases h' : n + 1 < l.length
          · rw [if_pos (by omega), if_pos (by omega), rdT151 l (n + 1) h', spec_Min.ok', dif_pos h']
            rfl
          · rw [if_neg (by omega), dif_neg h']
        rw [if_pos (by simpa using c), e, if_pos c]
        simp only [spec_TimeOf.j3]
        rw [if_pos (by omega), if_pos (by omega), rdT151 l n h, spec_MakeRatio.ok _ _ k (by omega)]
        have e2 : makeR (wrap64 (wrap64 (endT t (l.drop (n + 1)) - l[n].f0) * 5000)) l[n].f1 = partT t l[n] (l.drop (n + 1)) := rfl
        rw [e2]
        simp only [Option.bind_some]
        rw [spec_AddRatio.ok _ _ _ _ k (by omega)]
        simp only [Option.bind_some]
        rw [w1 h (by omega), ih k (n + 1) _ _ (by omega) (by omega)]
        unfold noR
        split <;> rfl
      · rw [if_neg (by simpa using c), if_neg c]
    · simp only [spec_TimeOf.l0, spec_TimeOf.j2]
      rw [if_neg (by omega), List.drop_of_length_le (by omega)]
      simp [timeL]
theorem spec_TimeOf.ok (l : List Tmp) (t : Int) (hm : l.length ≤ 1048576) (k : Nat) (hk : 3 * l.length + 1000000000000020 < k) : spec_TimeOf.f k l t = some (timeOf l t) := by
  obtain ⟨k, rfl⟩ : ∃ m, k = m + 1 := ⟨k - 1, by omega⟩
  unfold spec_TimeOf.f timeOf
  rw [spec_IsTempo.ok l (by omega) _ (by omega), spec_l1In.ok]
  simp only [Option.bind_some, spec_TimeOf.j0]
  have hl := spec_TimeOf.loop l t hm l.length k 0 0 1 (by omega) (by omega)
  simp only [List.drop_zero] at hl
  by_cases hs : isTempoB l = true
  · by_cases hr : (0 : Int) ≤ t ∧ t ≤ 2000
    · simp only [hs, hr, and_self, decide_true, Bool.not_true, Bool.false_eq_true, if_true, if_false]
      exact hl
    · simp [hs, hr, noR]
  · simp [hs, noR]
theorem impl_TimeOf.loop (l : List Tmp) (t : Int) (hm : l.length ≤ 1048576) (hs : isTempoB l = true) : ∀ (d k n : Nat) (a b : Int), l.length - n ≤ d → 3 * d + 1000000000000010 < k → impl_TimeOf.l0 k l t l l.length (n : Int) a b = some (timeL t a b (l.drop n)) := by
  intro d
  induction d with
  | zero =>
    intro k n a b hd hk
    obtain ⟨k, rfl⟩ : ∃ m, k = m + 2 := ⟨k - 2, by omega⟩
    simp only [impl_TimeOf.l0]
    rw [if_neg (by omega), List.drop_of_length_le (by omega)]
    simp [timeL]
  | succ d ih =>
    intro k n a b hd hk
    obtain ⟨k, rfl⟩ : ∃ m, k = m + 2 := ⟨k - 2, by omega⟩
    by_cases h : n < l.length
    · simp only [impl_TimeOf.l0]
      rw [if_pos (by omega), if_pos (by omega), if_pos (by omega), rdT151 l n h, List.drop_eq_getElem_cons h]
      have e : (if wrap64 ((n : Int) + 1) < (l.length : Int) then (if 0 ≤ wrap64 ((n : Int) + 1) then impl_TimeOf.j2 (k + 1) l t (mn t (rd_T151 l (wrap64 ((n : Int) + 1))).f0) l l.length n a b l[n].f0 l[n].f1 else none) else impl_TimeOf.j2 (k + 1) l t t l l.length n a b l[n].f0 l[n].f1) = impl_TimeOf.j2 (k + 1) l t (endT t (l.drop (n + 1))) l l.length n a b l[n].f0 l[n].f1 := by
        rw [w1 h (by omega), endT_drop]
        by_cases h' : n + 1 < l.length
        · rw [if_pos (by omega), if_pos (by omega), rdT151 l (n + 1) h', dif_pos h']
        · rw [if_neg (by omega), dif_neg h']
      rw [e]
      simp only [impl_TimeOf.j2, timeL]
      have hc : endT t (l.drop (n + 1)) ≤ l[n].f0 ↔ ¬ l[n].f0 < t := by
        rw [endT_drop]
        by_cases h' : n + 1 < l.length
        · rw [dif_pos h']
          have := isTempoB_lt hs n h'
          unfold mn
          split <;> omega
        · rw [dif_neg h']
          omega
      by_cases c : l[n].f0 < t
      · rw [if_neg (fun h => hc.mp h c), if_pos c, impl_MakeRatio.ok _ _ k (by omega)]
        have e2 : makeR (wrap64 (wrap64 (endT t (l.drop (n + 1)) - l[n].f0) * 5000)) l[n].f1 = partT t l[n] (l.drop (n + 1)) := rfl
        rw [e2]
        simp only [Option.bind_some]
        rw [impl_AddRatio.ok _ _ _ _ k (by omega)]
        simp only [Option.bind_some]
        rw [w1 h (by omega), ih k (n + 1) _ _ (by omega) (by omega)]
        by_cases c2 : (partT t l[n] (l.drop (n + 1))).2.2 = true
        · rw [if_pos c2]
          unfold noR
          split <;> rfl
        · have c3 : (partT t l[n] (l.drop (n + 1))).2.2 = false := by simpa using c2
          have e3 : partT t l[n] (l.drop (n + 1)) = noR := makeR_no c3
          rw [if_neg c2, e3, show noR.1 = 0 from rfl, show noR.2.1 = 0 from rfl, addR_noR]
          rfl
      · rw [if_pos (hc.mpr c), if_neg c]
    · simp only [impl_TimeOf.l0]
      rw [if_neg (by omega), List.drop_of_length_le (by omega)]
      simp [timeL]
theorem impl_TimeOf.ok (l : List Tmp) (t : Int) (hm : l.length ≤ 1048576) (k : Nat) (hk : 3 * l.length + 1000000000000020 < k) : impl_TimeOf.f k l t = some (timeOf l t) := by
  obtain ⟨k, rfl⟩ : ∃ m, k = m + 1 := ⟨k - 1, by omega⟩
  unfold impl_TimeOf.f timeOf
  rw [impl_IsTempo.ok l (by omega) _ (by omega), impl_InRange.ok]
  simp only [Option.bind_some, impl_TimeOf.j0]
  by_cases hs : isTempoB l = true
  · have hl := impl_TimeOf.loop l t hm hs l.length k 0 0 1 (by omega) (by omega)
    simp only [List.drop_zero] at hl
    by_cases hr : (0 : Int) ≤ t ∧ t ≤ 2000
    · simp only [hs, hr, and_self, decide_true, Bool.not_true, Bool.false_eq_true, if_true, if_false]
      exact hl
    · simp [hs, hr, noR]
  · simp [hs, noR]
end Go.Proofs.Ytbhlmeghbfmgiaa.F

namespace Go.Proofs.Ytbhlmeghbfmgiaa.F
open Go.RowKit Go.Proofs.Ytbhlmeghbfmgiaa.Opened Go.Proofs.YtbhlmeghbfmgiaaW.PrintWords Go.Proofs.YtbhlmeghbfmgiaaW.PrintLast Go.Proofs.YtbhlmeghbfmgiaaW.PrintMore
set_option linter.unusedVariables false
set_option linter.unusedSimpArgs false
def vR (n d : Int) : Rat := (n : Rat) / (d : Rat)
theorem castne {d : Int} (h : d ≠ 0) : (d : Rat) ≠ 0 := by
  intro e
  exact h (by exact_mod_cast e)
theorem vR_eq {a b c d : Int} (hb : b ≠ 0) (hd : d ≠ 0) : vR a b = vR c d ↔ a * d = c * b := by
  have h1 := castne hb
  have h2 := castne hd
  unfold vR
  constructor
  · intro h
    have : (a : Rat) * d = c * b := by grind
    exact_mod_cast this
  · intro h
    have : (a : Rat) * d = c * b := by exact_mod_cast h
    grind
theorem vR_lt {a b c d : Int} (hb : 0 < b) (hd : 0 < d) : vR a b < vR c d ↔ a * d < c * b := by
  unfold vR
  have h1 : (0 : Rat) < b := by exact_mod_cast hb
  have h2 : (0 : Rat) < d := by exact_mod_cast hd
  rw [Rat.div_lt_iff h1]
  have e : (c : Rat) / d * b = (c * b) / d := by grind
  rw [e, Rat.lt_div_iff h2]
  exact_mod_cast Iff.rfl
theorem vR_add {a b c d : Int} (hb : b ≠ 0) (hd : d ≠ 0) : vR (a * d + c * b) (b * d) = vR a b + vR c d := by
  have h1 := castne hb
  have h2 := castne hd
  unfold vR
  rw [Rat.intCast_add, Rat.intCast_mul, Rat.intCast_mul, Rat.intCast_mul]
  grind
theorem vR_mul {a b c d : Int} (hb : b ≠ 0) (hd : d ≠ 0) : vR (a * c) (b * d) = vR a b * vR c d := by
  have h1 := castne hb
  have h2 := castne hd
  unfold vR
  rw [Rat.intCast_mul, Rat.intCast_mul]
  grind
theorem lowC_val {n d : Int} (hd : 0 < d) (h : (lowC n d).2.2 = true) : isRB (lowC n d).1 (lowC n d).2.1 = true ∧ vR (lowC n d).1 (lowC n d).2.1 = vR n d := by
  unfold lowC at *
  split at h
  · rename_i c
    rw [if_pos c]
    refine ⟨c, ?_⟩
    have hg := gI_pos n d hd
    have e1 := Int.mul_tdiv_cancel' (gI_dvd_left n d)
    have e2 := Int.mul_tdiv_cancel' (gI_dvd_right n d)
    have hb := (isRB_b c).1.1
    generalize Int.tdiv n (gI n d) = x at *
    generalize Int.tdiv d (gI n d) = y at *
    show vR x y = vR n d
    rw [vR_eq (by omega) (by omega)]
    generalize gI n d = g at *
    rw [← e1, ← e2]
    grind
  · simp [noR] at h
theorem lowP_val {n d : Int} (h : (lowP n d).2.2 = true) : isRB (lowP n d).1 (lowP n d).2.1 = true ∧ vR (lowP n d).1 (lowP n d).2.1 = vR n d := by
  unfold lowP at *
  split at h
  · rename_i c
    rw [if_pos c]
    have := lowC_val (n := -n) (d := -d) (by omega) h
    refine ⟨this.1, this.2.trans ?_⟩
    rw [vR_eq (by omega) (by omega)]
    grind
  · rename_i c
    rw [if_neg c]
    split at h
    · simp [noR] at h
    · rename_i c2
      rw [if_neg c2]
      exact lowC_val (by omega) h
def mulR (an ad bn bd : Int) : Int × Int × Bool := if isRB an ad = true ∧ isRB bn bd = true then lowP (an * bn) (ad * bd) else noR
theorem makeR_val {n d : Int} (h : (makeR n d).2.2 = true) : isRB (makeR n d).1 (makeR n d).2.1 = true ∧ vR (makeR n d).1 (makeR n d).2.1 = vR n d := by
  unfold makeR at *
  split at h
  · rename_i c
    rw [if_pos c]
    exact lowP_val h
  · simp [noR] at h
theorem addR_val {a b c d : Int} (h : (addR a b c d).2.2 = true) : isRB a b = true ∧ isRB c d = true ∧ isRB (addR a b c d).1 (addR a b c d).2.1 = true ∧ vR (addR a b c d).1 (addR a b c d).2.1 = vR a b + vR c d := by
  unfold addR at *
  split at h
  · rename_i hc
    rw [if_pos hc]
    have h1 := (isRB_b hc.1).1.1
    have h2 := (isRB_b hc.2).1.1
    have := lowP_val h
    exact ⟨hc.1, hc.2, this.1, this.2.trans (vR_add (by omega) (by omega))⟩
  · simp [noR] at h
theorem mulR_val {a b c d : Int} (h : (mulR a b c d).2.2 = true) : isRB a b = true ∧ isRB c d = true ∧ isRB (mulR a b c d).1 (mulR a b c d).2.1 = true ∧ vR (mulR a b c d).1 (mulR a b c d).2.1 = vR a b * vR c d := by
  unfold mulR at *
  split at h
  · rename_i hc
    rw [if_pos hc]
    have h1 := (isRB_b hc.1).1.1
    have h2 := (isRB_b hc.2).1.1
    have := lowP_val h
    exact ⟨hc.1, hc.2, this.1, this.2.trans (vR_mul (by omega) (by omega))⟩
  · simp [noR] at h
theorem isRB_whole {n d t : Int} (h : isRB n d = true) (hv : vR n d = (t : Rat)) : n = t ∧ d = 1 := by
  obtain ⟨⟨h1, _⟩, _, h3⟩ := isRB_b h
  have e : vR n d = vR t 1 := by rw [hv]; unfold vR; rw [Rat.intCast_one]; grind
  rw [vR_eq (by omega) (by omega), Int.mul_one] at e
  have hd : d = 1 := by
    unfold gI at h3
    rw [e, Int.natAbs_mul] at h3
    rw [Nat.gcd_mul_left_left] at h3
    omega
  subst hd
  omega
def secT (t : Int) (e : Tmp) (l : List Tmp) : Rat := ((endT t l - e.f0 : Int) : Rat) * 5000 / (e.f1 : Rat)
def sumT (t : Int) : List Tmp → Rat
  | [] => 0
  | e :: l => if e.f0 < t then secT t e l + sumT t l else 0
def MarksT : Int → List Tmp → Prop
  | _, [] => True
  | a, e :: l => (20 ≤ e.f1 ∧ e.f1 ≤ 300) ∧ (a ≤ e.f0 ∧ e.f0 ≤ 2000) ∧ MarksT (e.f0 + 1) l
theorem MarksT.of : ∀ (l : List Tmp) (q : Tmp), tpB (some q) l = true → MarksT (q.f0 + 1) l
  | [], q, _ => trivial
  | e :: l, q, h => by
    unfold tpB at h
    rw [Bool.and_eq_true, decide_eq_true_eq] at h
    obtain ⟨h1, h2⟩ := h
    unfold okT at h1
    exact ⟨h1.1, ⟨by omega, h1.2.1.2⟩, MarksT.of l e h2⟩
theorem MarksT.ofB {l : List Tmp} (h : isTempoB l = true) : MarksT 0 l ∧ ∃ e m, l = e :: m ∧ e.f0 = 0 := by
  unfold isTempoB at h
  rw [Bool.and_eq_true, decide_eq_true_eq] at h
  obtain ⟨h1, h2, h3⟩ := h
  match l with
  | [] => simp at h2
  | e :: m =>
    unfold tpB at h1
    rw [Bool.and_eq_true, decide_eq_true_eq] at h1
    obtain ⟨g1, g2⟩ := h1
    unfold okT at g1
    exact ⟨⟨g1.1, ⟨by omega, g1.2.1.2⟩, MarksT.of m e g2⟩, e, m, rfl, g1.2.2⟩
theorem endT_cons (t : Int) (f : Tmp) (l : List Tmp) : endT t (f :: l) = mn t f.f0 := rfl
theorem endT_le (t : Int) (l : List Tmp) : endT t l ≤ t := by
  cases l with
  | nil => exact Int.le_refl _
  | cons f l => rw [endT_cons]; unfold mn; split <;> omega
theorem endT_gt {t a : Int} {l : List Tmp} (h : MarksT (a + 1) l) (ht : a < t) : a < endT t l := by
  cases l with
  | nil => exact ht
  | cons f m =>
    have h2 := h.2.1
    rw [endT_cons]
    unfold mn
    split <;> omega
theorem castlt {a b : Int} (h : a < b) : (a : Rat) < b := by exact_mod_cast h
theorem castle {a b : Int} (h : a ≤ b) : (a : Rat) ≤ b := by exact_mod_cast h
theorem secT_pos {t : Int} {e : Tmp} {l : List Tmp} (hr : 20 ≤ e.f1) (h : e.f0 < endT t l) : 0 < secT t e l := by
  unfold secT
  have h1 : (0 : Rat) < ((endT t l - e.f0 : Int) : Rat) := by
    have := castlt (a := 0) (b := endT t l - e.f0) (by omega)
    simpa using this
  have h2 : (0 : Rat) < (e.f1 : Rat) := by
    have := castlt (a := 0) (b := e.f1) (by omega)
    simpa using this
  rw [Rat.lt_div_iff h2]
  grind
theorem partT_val {t : Int} {e : Tmp} {l : List Tmp} (he : 20 ≤ e.f1 ∧ e.f1 ≤ 300) (h0 : 0 ≤ e.f0) (ht : t ≤ 2000) (hlt : e.f0 < endT t l) (h : isRB (partT t e l).1 (partT t e l).2.1 = true) : vR (partT t e l).1 (partT t e l).2.1 = secT t e l := by
  have hle := endT_le t l
  have ew : wrap64 (wrap64 (endT t l - e.f0) * 5000) = (endT t l - e.f0) * 5000 := by unfold wrap64; omega
  have ep : partT t e l = makeR ((endT t l - e.f0) * 5000) e.f1 := by unfold partT; rw [ew]
  rw [ep] at h ⊢
  by_cases c : (makeR ((endT t l - e.f0) * 5000) e.f1).2.2 = true
  · rw [(makeR_val c).2]
    unfold vR secT
    rw [Rat.intCast_mul]
    rfl
  · have : makeR ((endT t l - e.f0) * 5000) e.f1 = noR := makeR_no (by simpa using c)
    rw [this] at h
    exact absurd h (by decide)
theorem timeL_val (t : Int) (ht : t ≤ 2000) : ∀ (l : List Tmp) (n d : Int) (a : Int), 0 ≤ a → MarksT a l → isRB n d = true → (timeL t n d l).2.2 = true → isRB (timeL t n d l).1 (timeL t n d l).2.1 = true ∧ vR (timeL t n d l).1 (timeL t n d l).2.1 = vR n d + sumT t l
  | [], n, d, a, ha, hl, hn, h => by
    unfold timeL sumT
    exact ⟨hn, by grind⟩
  | e :: l, n, d, a, ha, hl, hn, h => by
    obtain ⟨h1, h2, h3⟩ := hl
    unfold timeL sumT at *
    by_cases c : e.f0 < t
    · rw [if_pos c] at h ⊢
      rw [if_pos c]
      split at h
      · rename_i c2
        rw [if_pos c2]
        obtain ⟨q1, q2, q3, q4⟩ := addR_val c2
        have ih := timeL_val t ht l _ _ (e.f0 + 1) (by omega) h3 q3 h
        refine ⟨ih.1, ih.2.trans ?_⟩
        rw [q4, partT_val h1 (by omega) ht (endT_gt h3 c) q2]
        grind
      · simp [noR] at h
    · rw [if_neg c] at h ⊢
      rw [if_neg c]
      exact ⟨hn, by grind⟩
theorem isRB_01 : isRB 0 1 = true := by decide
theorem timeOf_val {l : List Tmp} {t : Int} (h : (timeOf l t).2.2 = true) : (isTempoB l = true ∧ 0 ≤ t ∧ t ≤ 2000) ∧ isRB (timeOf l t).1 (timeOf l t).2.1 = true ∧ vR (timeOf l t).1 (timeOf l t).2.1 = sumT t l := by
  unfold timeOf at *
  split at h
  · rename_i c
    rw [if_pos c]
    have := timeL_val t c.2.2 l 0 1 0 (by omega) (MarksT.ofB c.1).1 isRB_01 h
    refine ⟨⟨c.1, c.2⟩, this.1, this.2.trans ?_⟩
    unfold vR
    rw [Rat.intCast_zero]
    grind
  · simp [noR] at h
theorem castpos {a : Int} (h : 0 < a) : (0 : Rat) < (a : Rat) := by
  have := castlt h
  simpa using this
theorem secT_nn {t : Int} {e : Tmp} {l : List Tmp} (hr : 20 ≤ e.f1) (h : e.f0 < endT t l) : 0 ≤ secT t e l := Rat.le_of_lt (secT_pos hr h)
theorem sumT_nn : ∀ (l : List Tmp) (a t : Int), MarksT a l → 0 ≤ sumT t l
  | [], a, t, hl => Rat.le_refl
  | e :: l, a, t, hl => by
    obtain ⟨h1, h2, h3⟩ := hl
    have ih := sumT_nn l _ t h3
    unfold sumT
    by_cases c : e.f0 < t
    · rw [if_pos c]
      have := secT_nn h1.1 (endT_gt h3 c)
      grind
    · rw [if_neg c]
      exact Rat.le_refl
theorem secT_le {s t : Int} {e : Tmp} {l : List Tmp} (hr : 20 ≤ e.f1) (h : endT s l ≤ endT t l) : secT s e l ≤ secT t e l := by
  unfold secT
  have h2 := castpos (a := e.f1) (by omega)
  have h3 := castle (a := endT s l - e.f0) (b := endT t l - e.f0) (by omega)
  rw [← Rat.not_lt, Rat.div_lt_iff h2]
  have : ((endT s l - e.f0 : Int) : Rat) * 5000 / (e.f1 : Rat) * e.f1 = ((endT s l - e.f0 : Int) : Rat) * 5000 := by grind
  rw [this]
  grind
theorem secT_lt {s t : Int} {e : Tmp} {l : List Tmp} (hr : 20 ≤ e.f1) (h : endT s l < endT t l) : secT s e l < secT t e l := by
  unfold secT
  have h2 := castpos (a := e.f1) (by omega)
  have h3 := castlt (a := endT s l - e.f0) (b := endT t l - e.f0) (by omega)
  rw [Rat.div_lt_iff h2]
  have : ((endT t l - e.f0 : Int) : Rat) * 5000 / (e.f1 : Rat) * e.f1 = ((endT t l - e.f0 : Int) : Rat) * 5000 := by grind
  rw [this]
  grind
theorem endT_mono {s t : Int} (l : List Tmp) (h : s ≤ t) : endT s l ≤ endT t l := by
  cases l with
  | nil => exact h
  | cons f m => rw [endT_cons, endT_cons]; unfold mn; split <;> split <;> omega
theorem sumT_mono : ∀ (l : List Tmp) (a s t : Int), MarksT a l → s ≤ t → sumT s l ≤ sumT t l
  | [], a, s, t, hl, h => Rat.le_refl
  | e :: l, a, s, t, hl, h => by
    have nn := sumT_nn (e :: l) a t hl
    obtain ⟨h1, h2, h3⟩ := hl
    have ih := sumT_mono l _ s t h3 h
    by_cases c : e.f0 < s
    · unfold sumT
      rw [if_pos c, if_pos (by omega)]
      have := secT_le h1.1 (e := e) (endT_mono l h)
      grind
    · have : sumT s (e :: l) = 0 := by unfold sumT; rw [if_neg c]
      rw [this]
      exact nn
theorem sumT_lt : ∀ (l : List Tmp) (e : Tmp) (a s t : Int), MarksT a (e :: l) → e.f0 ≤ s → s < t → sumT s (e :: l) < sumT t (e :: l)
  | l, e, a, s, t, hl, hs, h => by
    obtain ⟨h1, h2, h3⟩ := hl
    have nn := sumT_nn l _ t h3
    have mono := sumT_mono l _ s t h3 (by omega)
    by_cases c : e.f0 < s
    · have e1 : sumT s (e :: l) = secT s e l + sumT s l := by rw [sumT, if_pos c]
      have e2 : sumT t (e :: l) = secT t e l + sumT t l := by rw [sumT, if_pos (by omega)]
      rw [e1, e2]
      match l with
      | [] =>
        have := secT_lt (s := s) (t := t) (l := []) h1.1 (e := e) h
        grind
      | f :: m =>
        by_cases c2 : s < f.f0
        · have := secT_lt (s := s) (t := t) (l := f :: m) h1.1 (e := e) (by rw [endT_cons, endT_cons]; unfold mn; split <;> split <;> omega)
          grind
        · have := secT_le (s := s) (t := t) h1.1 (e := e) (endT_mono (f :: m) (by omega))
          have := sumT_lt m f _ s t h3 (by omega) h
          grind
    · have e1 : sumT s (e :: l) = 0 := by rw [sumT, if_neg c]
      have e2 : sumT t (e :: l) = secT t e l + sumT t l := by rw [sumT, if_pos (by omega)]
      rw [e1, e2]
      have := secT_pos h1.1 (endT_gt h3 (show e.f0 < t by omega))
      grind
theorem sumT_split : ∀ (l1 : List Tmp) (m : Tmp) (l2 : List Tmp) (a t : Int), MarksT a (l1 ++ m :: l2) → m.f0 ≤ t → a ≤ m.f0 ∧ sumT t (l1 ++ m :: l2) = sumT m.f0 (l1 ++ m :: l2) + sumT t (m :: l2)
  | [], m, l2, a, t, hl, ht => by
    refine ⟨hl.2.1.1, ?_⟩
    have e1 : sumT m.f0 ([] ++ m :: l2) = 0 := by rw [List.nil_append, sumT, if_neg (by omega)]
    rw [e1, List.nil_append]
    grind
  | e :: l1, m, l2, a, t, hl, ht => by
    obtain ⟨h1, h2, h3⟩ := hl
    have ih := sumT_split l1 m l2 _ t h3 ht
    refine ⟨by omega, ?_⟩
    have e1 : sumT t (e :: (l1 ++ m :: l2)) = secT t e (l1 ++ m :: l2) + sumT t (l1 ++ m :: l2) := by rw [sumT, if_pos (by omega)]
    have e2 : sumT m.f0 (e :: (l1 ++ m :: l2)) = secT m.f0 e (l1 ++ m :: l2) + sumT m.f0 (l1 ++ m :: l2) := by rw [sumT, if_pos (by omega)]
    have e3 : endT t (l1 ++ m :: l2) = endT m.f0 (l1 ++ m :: l2) := by
      cases l1 with
      | nil => show mn t m.f0 = mn m.f0 m.f0; unfold mn; split <;> split <;> omega
      | cons f l1 =>
        have h4 := sumT_split l1 m l2 _ t h3.2.2 ht
        show mn t f.f0 = mn m.f0 f.f0
        unfold mn
        split <;> split <;> omega
    have e4 : secT t e (l1 ++ m :: l2) = secT m.f0 e (l1 ++ m :: l2) := by unfold secT; rw [e3]
    show sumT t (e :: (l1 ++ m :: l2)) = sumT m.f0 (e :: (l1 ++ m :: l2)) + sumT t (m :: l2)
    rw [e1, e2, e4, ih.2]
    grind
theorem sumT_one {m : Tmp} {l2 : List Tmp} {a t : Int} (hl : MarksT a (m :: l2)) (ht : m.f0 ≤ t) (hn : ∀ f k, l2 = f :: k → t < f.f0) : sumT t (m :: l2) = ((t : Rat) - m.f0) * 5000 / m.f1 := by
  have e3 : endT t l2 = t := by
    cases l2 with
    | nil => rfl
    | cons f k => have := hn f k rfl; rw [endT_cons]; unfold mn; rw [if_neg (by omega)]
  have e4 : sumT t l2 = 0 := by
    cases l2 with
    | nil => rfl
    | cons f k => have := hn f k rfl; rw [sumT, if_neg (by omega)]
  by_cases c : m.f0 < t
  · rw [sumT, if_pos c, e4]
    unfold secT
    rw [e3, Rat.intCast_sub]
    grind
  · have : m.f0 = t := by omega
    rw [sumT, if_neg c, this]
    grind
def lessR (an ad bn bd : Int) : Bool := isRB an ad && (isRB bn bd && decide (an * bd < bn * ad))
def finK (m : Tmp) (r : Int × Int × Bool) : Int × Int × Bool := mulR r.1 r.2.1 (makeR m.f1 5000).1 (makeR m.f1 5000).2.1
def finO (m : Tmp) (r : Int × Int × Bool) : Int × Int × Bool := addR m.f0 1 (finK m r).1 (finK m r).2.1
def finT (n d : Int) (m : Tmp) (tn td : Int) : Int × Int × Bool := if ((addR n d (-tn) td).2.2 = true ∧ (makeR m.f1 5000).2.2 = true) ∧ (finK m (addR n d (-tn) td)).2.2 = true ∧ (finO m (addR n d (-tn) td)).2.2 = true then finO m (addR n d (-tn) td) else noR
def tickL (l : List Tmp) (n d : Int) : Tmp → Int → Int → List Tmp → Int × Int × Bool
  | m, tn, td, [] => finT n d m tn td
  | m, tn, td, e :: rest => if (timeOf l e.f0).2.2 = true then (if lessR n d (timeOf l e.f0).1 (timeOf l e.f0).2.1 = true then finT n d m tn td else tickL l n d e (timeOf l e.f0).1 (timeOf l e.f0).2.1 rest) else noR
def tickAt (l : List Tmp) (n d : Int) : Int × Int × Bool := if isTempoB l = true ∧ isRB n d = true ∧ 0 ≤ n then tickL l n d (l.headD ⟨0, 0⟩) 0 1 l.tail else noR
theorem lessR_lt {a b c d : Int} (h1 : isRB a b = true) (h2 : isRB c d = true) : lessR a b c d = true ↔ vR a b < vR c d := by
  have p1 := (isRB_b h1).1.1
  have p2 := (isRB_b h2).1.1
  unfold lessR
  rw [h1, h2, vR_lt (by omega) (by omega)]
  simp
theorem vR_neg (a b : Int) : vR (-a) b = - vR a b := by
  unfold vR
  rw [Rat.intCast_neg]
  grind
theorem finT_val {n d tn td : Int} {m : Tmp} (hm : 20 ≤ m.f1) (h : (finT n d m tn td).2.2 = true) : isRB (finT n d m tn td).1 (finT n d m tn td).2.1 = true ∧ vR (finT n d m tn td).1 (finT n d m tn td).2.1 = (m.f0 : Rat) + (vR n d - vR tn td) * (m.f1 : Rat) / 5000 := by
  unfold finT at *
  split at h
  · rename_i c
    rw [if_pos c]
    obtain ⟨⟨c1, c2⟩, c3, c4⟩ := c
    have a1 := addR_val c1
    have a2 := makeR_val c2
    unfold finO finK at *
    have a3 := mulR_val c3
    have a4 := addR_val c4
    refine ⟨a4.2.2.1, ?_⟩
    rw [a4.2.2.2, a3.2.2.2, a2.2, a1.2.2.2, vR_neg]
    have e1 : vR m.f0 1 = (m.f0 : Rat) := by unfold vR; rw [Rat.intCast_one]; grind
    have e2 : vR m.f1 5000 = (m.f1 : Rat) / 5000 := rfl
    rw [e1, e2]
    grind
  · simp [noR] at h
theorem vR01 : vR 0 1 = 0 := by
  unfold vR
  rw [Rat.intCast_zero]
  grind
theorem tickL_val (l : List Tmp) (n d : Int) (hl : MarksT 0 l) (hms : isRB n d = true) : ∀ (rest : List Tmp) (l1 : List Tmp) (m : Tmp) (tn td : Int), l = l1 ++ m :: rest → isRB tn td = true → vR tn td = sumT m.f0 l → vR tn td ≤ vR n d → (tickL l n d m tn td rest).2.2 = true →
    isRB (tickL l n d m tn td rest).1 (tickL l n d m tn td rest).2.1 = true ∧ ∃ (l1' : List Tmp) (m' : Tmp) (l2' : List Tmp), l = l1' ++ m' :: l2' ∧ sumT m'.f0 l ≤ vR n d ∧ (∀ f k, l2' = f :: k → vR n d < sumT f.f0 l) ∧ 20 ≤ m'.f1 ∧ 0 ≤ m'.f0 ∧ vR (tickL l n d m tn td rest).1 (tickL l n d m tn td rest).2.1 = (m'.f0 : Rat) + (vR n d - sumT m'.f0 l) * (m'.f1 : Rat) / 5000
  | rest, l1, m, tn, td, he, ht, hv, hle, h => by
    have hm : 20 ≤ m.f1 ∧ 0 ≤ m.f0 := by
      clear h hv
      subst he
      clear hle hms ht
      have : ∀ (l1 : List Tmp) (a : Int), 0 ≤ a → MarksT a (l1 ++ m :: rest) → 20 ≤ m.f1 ∧ 0 ≤ m.f0 := by
        intro l1
        induction l1 with
        | nil => intro a ha hl; exact ⟨hl.1.1, by have := hl.2.1.1; omega⟩
        | cons e l1 ih => intro a ha hl; exact ih (e.f0 + 1) (by have := hl.2.1.1; omega) hl.2.2
      exact this l1 0 (by omega) hl
    match rest with
    | [] =>
      have := finT_val hm.1 h
      refine ⟨this.1, l1, m, [], he, by rw [← hv]; exact hle, fun f k e => by simp at e, hm.1, hm.2, ?_⟩
      rw [← hv]
      exact this.2
    | e :: rest =>
      have e0 : tickL l n d m tn td (e :: rest) = if (timeOf l e.f0).2.2 = true then (if lessR n d (timeOf l e.f0).1 (timeOf l e.f0).2.1 = true then finT n d m tn td else tickL l n d e (timeOf l e.f0).1 (timeOf l e.f0).2.1 rest) else noR := rfl
      rw [e0] at h ⊢
      split at h
      · rename_i c1
        rw [if_pos c1]
        have tv := timeOf_val c1
        split at h
        · rename_i c2
          rw [if_pos c2]
          have := finT_val hm.1 h
          refine ⟨this.1, l1, m, e :: rest, he, by rw [← hv]; exact hle, ?_, hm.1, hm.2, ?_⟩
          · intro f k e
            obtain ⟨rfl, rfl⟩ := List.cons.inj e
            rw [← tv.2.2]
            exact (lessR_lt hms tv.2.1).mp c2
          · rw [← hv]
            exact this.2
        · rename_i c2
          rw [if_neg c2]
          refine tickL_val l n d hl hms rest (l1 ++ [m]) e _ _ (by rw [he]; simp) tv.2.1 tv.2.2 ?_ h
          rw [← Rat.not_lt]
          exact fun q => c2 ((lessR_lt hms tv.2.1).mpr q)
      · simp [noR] at h
theorem sumT_head {l : List Tmp} {a : Int} (h : MarksT a l) (e : Tmp) (m : List Tmp) (he : l = e :: m) : sumT e.f0 l = 0 := by
  subst he
  rw [sumT, if_neg (by omega)]
theorem vR_nn {n d : Int} (h : isRB n d = true) (h0 : 0 ≤ n) : 0 ≤ vR n d := by
  have p := (isRB_b h).1.1
  rw [← Rat.not_lt, ← vR01, vR_lt (by omega) (by omega)]
  omega
theorem vR_nn' {n d : Int} (h : isRB n d = true) (h0 : 0 ≤ vR n d) : 0 ≤ n := by
  have p := (isRB_b h).1.1
  rw [← Rat.not_lt, ← vR01, vR_lt (by omega) (by omega)] at h0
  omega
theorem tickAt_val {l : List Tmp} {n d : Int} (h : (tickAt l n d).2.2 = true) : isTempoB l = true ∧ isRB n d = true ∧ isRB (tickAt l n d).1 (tickAt l n d).2.1 = true ∧ ∃ (l1' : List Tmp) (m' : Tmp) (l2' : List Tmp), l = l1' ++ m' :: l2' ∧ sumT m'.f0 l ≤ vR n d ∧ (∀ f k, l2' = f :: k → vR n d < sumT f.f0 l) ∧ 20 ≤ m'.f1 ∧ 0 ≤ m'.f0 ∧ vR (tickAt l n d).1 (tickAt l n d).2.1 = (m'.f0 : Rat) + (vR n d - sumT m'.f0 l) * (m'.f1 : Rat) / 5000 := by
  unfold tickAt at *
  split at h
  · rename_i c
    rw [if_pos c]
    obtain ⟨c1, c2, c3⟩ := c
    obtain ⟨hM, e, m, rfl, he0⟩ := MarksT.ofB c1
    have hs : sumT e.f0 (e :: m) = 0 := sumT_head hM e m rfl
    exact ⟨c1, c2, tickL_val (e :: m) n d hM c2 m [] e 0 1 rfl isRB_01 (by rw [vR01, hs]) (by rw [vR01]; exact vR_nn c2 c3) h⟩
  · simp [noR] at h
theorem tickAt_nn {l : List Tmp} {n d : Int} (h : (tickAt l n d).2.2 = true) : isRB (tickAt l n d).1 (tickAt l n d).2.1 = true ∧ 0 ≤ (tickAt l n d).1 := by
  obtain ⟨h1, h2, h3, l1, m, l2, e1, e2, e3, e4, e5, e6⟩ := tickAt_val h
  refine ⟨h3, vR_nn' h3 ?_⟩
  rw [e6]
  have p1 := castle e5
  have p2 := castpos (a := m.f1) (by omega)
  have p3 : 0 ≤ (vR n d - sumT m.f0 l) * (m.f1 : Rat) := Rat.mul_nonneg (by grind) (by grind)
  grind
theorem tickAt_timeOf {l : List Tmp} {t : Int} (h1 : (timeOf l t).2.2 = true) (h2 : (tickAt l (timeOf l t).1 (timeOf l t).2.1).2.2 = true) : (tickAt l (timeOf l t).1 (timeOf l t).2.1).1 = t ∧ (tickAt l (timeOf l t).1 (timeOf l t).2.1).2.1 = 1 := by
  obtain ⟨⟨q1, q2⟩, q3, q4⟩ := timeOf_val h1
  obtain ⟨g1, g2, g3, l1, m, l2, e1, e2, e3, e4, e5, e6⟩ := tickAt_val h2
  refine isRB_whole g3 ?_
  rw [e6, q4]
  rw [q4] at e2 e3
  obtain ⟨hM, e0, m0, rfl, he0⟩ := MarksT.ofB q1
  have s1 : m.f0 ≤ t := by
    by_cases c : m.f0 ≤ t
    · exact c
    · have := sumT_lt m0 e0 0 t m.f0 hM (by omega) (by omega)
      grind
  have s2 : ∀ f k, l2 = f :: k → t < f.f0 := by
    intro f k hf
    by_cases c : t < f.f0
    · exact c
    · have := sumT_mono (e0 :: m0) 0 f.f0 t hM (by omega)
      have := e3 f k hf
      grind
  rw [e1] at hM
  have s3 := (sumT_split l1 m l2 0 t hM s1).2
  have hM2 : ∀ (l1 : List Tmp) (a : Int), MarksT a (l1 ++ m :: l2) → ∃ b, MarksT b (m :: l2) := by
    intro l1
    induction l1 with
    | nil => intro a h; exact ⟨a, h⟩
    | cons e l1 ih => intro a h; exact ih _ h.2.2
  obtain ⟨b, hb⟩ := hM2 l1 0 hM
  have s4 := sumT_one hb s1 s2
  rw [← e1] at s3
  rw [s3, s4]
  have p2 := castpos (a := m.f1) (by omega)
  grind
theorem timeOf_less {l : List Tmp} {t : Int} (h1 : (timeOf l t).2.2 = true) (h2 : (timeOf l (t + 1)).2.2 = true) : lessR (timeOf l t).1 (timeOf l t).2.1 (timeOf l (t + 1)).1 (timeOf l (t + 1)).2.1 = true := by
  obtain ⟨⟨q1, q2⟩, q3, q4⟩ := timeOf_val h1
  obtain ⟨_, r3, r4⟩ := timeOf_val h2
  rw [lessR_lt q3 r3, q4, r4]
  obtain ⟨hM, e0, m0, rfl, he0⟩ := MarksT.ofB q1
  exact sumT_lt m0 e0 0 t (t + 1) hM (by omega) (by omega)
end Go.Proofs.Ytbhlmeghbfmgiaa.F

namespace Go.Proofs.Ytbhlmeghbfmgiaa.F
open Go.RowKit Go.Proofs.Ytbhlmeghbfmgiaa.Opened Go.Proofs.YtbhlmeghbfmgiaaW.PrintWords Go.Proofs.YtbhlmeghbfmgiaaW.PrintLast Go.Proofs.YtbhlmeghbfmgiaaW.PrintMore
set_option linter.unusedVariables false
set_option linter.unusedSimpArgs false
theorem impl_MulRatio.ok (an ad bn bd : Int) (k : Nat) (hk : 1000000000000001 < k) : impl_MulRatio.f k an ad bn bd = some (mulR an ad bn bd) := by
  unfold impl_MulRatio.f mulR
  rw [impl_IsRatio.ok an ad k (by omega), impl_IsRatio.ok bn bd k (by omega)]
  simp only [Option.bind_some]
  by_cases h1 : isRB an ad = true
  · by_cases h2 : isRB bn bd = true
    · obtain ⟨a1, a2, a3⟩ := isRB_b h1
      obtain ⟨b1, b2, b3⟩ := isRB_b h2
      have m1 : (an * bn).natAbs ≤ 1000000000 * 1000000000 := mulB (by omega) (by omega)
      have m3 : (ad * bd).natAbs ≤ 1000000 * 1000000 := mulB (by omega) (by omega)
      rw [if_pos h1, if_pos h2, if_pos ⟨h1, h2⟩, wN (x := an * bn) (by omega), wN (x := ad * bd) (by omega), impl_lowest.ok _ _ (by omega) (by omega) k hk]
      rfl
    · rw [if_pos h1, if_neg h2, if_neg (fun h => h2 h.2)]
      rfl
  · rw [if_neg h1, if_neg (fun h => h1 h.1)]
    rfl
theorem impl_LessRatio.ok (an ad bn bd : Int) (k : Nat) (hk : 1000000000000001 < k) : impl_LessRatio.f k an ad bn bd = some (lessR an ad bn bd) := by
  unfold impl_LessRatio.f lessR
  rw [impl_IsRatio.ok an ad k (by omega), impl_IsRatio.ok bn bd k (by omega)]
  simp only [Option.bind_some]
  by_cases h1 : isRB an ad = true
  · by_cases h2 : isRB bn bd = true
    · obtain ⟨a1, a2, a3⟩ := isRB_b h1
      obtain ⟨b1, b2, b3⟩ := isRB_b h2
      have m1 : (an * bd).natAbs ≤ 1000000000 * 1000000 := mulB (by omega) (by omega)
      have m2 : (bn * ad).natAbs ≤ 1000000000 * 1000000 := mulB (by omega) (by omega)
      rw [if_pos h1, if_pos h2, h1, h2, wN (x := an * bd) (by omega), wN (x := bn * ad) (by omega)]
      rfl
    · rw [if_pos h1, if_neg h2, h1]
      simp only [Bool.not_eq_true] at h2
      rw [h2]
      rfl
  · rw [if_neg h1]
    simp only [Bool.not_eq_true] at h1
    rw [h1]
    rfl
theorem impl_TickAt.fin (n d tn td : Int) (m : Tmp) (ht : tn.natAbs ≤ 1000000000) (k : Nat) (hk : 1000000000000002 < k) : impl_TickAt.j2 k n d m.f0 m.f1 tn td = some (finT n d m tn td) := by
  obtain ⟨k, rfl⟩ : ∃ q, k = q + 1 := ⟨k - 1, by omega⟩
  rw [impl_TickAt.j2, wN (x := -tn) (by omega), impl_AddRatio.ok _ _ _ _ k (by omega)]
  simp only [Option.bind_some]
  rw [impl_MakeRatio.ok _ _ k (by omega)]
  simp only [Option.bind_some]
  rw [impl_MulRatio.ok _ _ _ _ k (by omega)]
  simp only [Option.bind_some]
  rw [impl_AddRatio.ok _ _ _ _ k (by omega)]
  simp only [Option.bind_some]
  unfold finT finO finK
  generalize addR n d (-tn) td = r
  generalize makeR m.f1 5000 = b
  generalize mulR r.1 r.2.1 b.1 b.2.1 = t
  generalize addR m.f0 1 t.1 t.2.1 = o
  obtain ⟨o1, o2, o3⟩ := o
  obtain ⟨t1, t2, t3⟩ := t
  obtain ⟨b1, b2, b3⟩ := b
  obtain ⟨r1, r2, r3⟩ := r
  cases r3 <;> cases b3 <;> cases t3 <;> cases o3 <;> rfl
theorem timeOf_small {l : List Tmp} {t : Int} (h : (timeOf l t).2.2 = true) : (timeOf l t).1.natAbs ≤ 1000000000 := by
  have := (isRB_b (timeOf_val h).2.1).2.1
  omega
theorem impl_TickAt.loop (l0 : List Tmp) (y : List Tmp) (hm : l0.length ≤ 1048576) (hy : y.length ≤ 1048576) (n d : Int) : ∀ (q k i : Nat) (m : Tmp) (tn td : Int), y.length - i ≤ q → q + 3 * l0.length + 1000000000000030 < k → tn.natAbs ≤ 1000000000 → impl_TickAt.l0 k l0 y y.length (i : Int) n d m.f0 m.f1 tn td = some (tickL l0 n d m tn td (y.drop i)) := by
  intro q
  induction q with
  | zero =>
    intro k i m tn td hq hk ht
    obtain ⟨k, rfl⟩ : ∃ z, k = z + 1 := ⟨k - 1, by omega⟩
    rw [impl_TickAt.l0, if_neg (by omega), List.drop_of_length_le (by omega), impl_TickAt.fin n d tn td m ht k (by omega)]
    rfl
  | succ q ih =>
    intro k i m tn td hq hk ht
    obtain ⟨k, rfl⟩ : ∃ z, k = z + 1 := ⟨k - 1, by omega⟩
    by_cases h : i < y.length
    · rw [impl_TickAt.l0, if_pos (by omega), if_pos (by omega), if_pos (by omega), rdT151 y i h, List.drop_eq_getElem_cons h, impl_TimeOf.ok l0 _ hm k (by omega)]
      simp only [Option.bind_some]
      by_cases c : (timeOf l0 y[i].f0).2.2 = true
      · rw [if_pos c, impl_LessRatio.ok _ _ _ _ k (by omega)]
        simp only [Option.bind_some]
        rw [w1 h (by omega), ih k (i + 1) y[i] _ _ (by omega) (by omega) (timeOf_small c), impl_TickAt.fin n d tn td m ht k (by omega)]
        have e : tickL l0 n d m tn td (y[i] :: y.drop (i + 1)) = if (timeOf l0 y[i].f0).2.2 = true then (if lessR n d (timeOf l0 y[i].f0).1 (timeOf l0 y[i].f0).2.1 = true then finT n d m tn td else tickL l0 n d y[i] (timeOf l0 y[i].f0).1 (timeOf l0 y[i].f0).2.1 (y.drop (i + 1))) else noR := rfl
        rw [e, if_pos c]
        split <;> rfl
      · have e : tickL l0 n d m tn td (y[i] :: y.drop (i + 1)) = if (timeOf l0 y[i].f0).2.2 = true then (if lessR n d (timeOf l0 y[i].f0).1 (timeOf l0 y[i].f0).2.1 = true then finT n d m tn td else tickL l0 n d y[i] (timeOf l0 y[i].f0).1 (timeOf l0 y[i].f0).2.1 (y.drop (i + 1))) else noR := rfl
        rw [e, if_neg c, if_neg c]
        rfl
    · rw [impl_TickAt.l0, if_neg (by omega), List.drop_of_length_le (by omega), impl_TickAt.fin n d tn td m ht k (by omega)]
      rfl
theorem tempo_pos {l : List Tmp} (h : isTempoB l = true) : 0 < l.length := by
  unfold isTempoB at h
  rw [Bool.and_eq_true, decide_eq_true_eq] at h
  omega
theorem impl_TickAt.ok (l : List Tmp) (n d : Int) (hm : l.length ≤ 1048576) (k : Nat) (hk : 5 * l.length + 1000000000000100 < k) : impl_TickAt.f k l n d = some (tickAt l n d) := by
  unfold impl_TickAt.f tickAt
  rw [impl_IsTempo.ok l (by omega) k (by omega), impl_IsRatio.ok n d k (by omega)]
  simp only [Option.bind_some]
  obtain ⟨k, rfl⟩ : ∃ q, k = q + 1 := ⟨k - 1, by omega⟩
  by_cases h1 : isTempoB l = true
  · by_cases h2 : isRB n d = true
    · rw [if_pos h1, if_pos h2, impl_TickAt.j0]
      by_cases h3 : n < 0
      · rw [decide_eq_true h3, if_pos rfl, if_neg (fun h => by omega)]
        rfl
      · have hp := tempo_pos h1
        rw [decide_eq_false h3, if_neg (by simp), if_pos (by omega), if_pos (by omega), Option.bind_some, if_pos ⟨h1, h2, by omega⟩]
        have hl := impl_TickAt.loop l (l.drop 1) hm (by rw [List.length_drop]; omega) n d (l.drop 1).length k 0 (rd_T151 l 0) 0 1 (by omega) (by rw [List.length_drop]; omega) (by omega)
        rw [List.drop_zero] at hl
        have e0 : rd_T151 l 0 = l.headD ⟨0, 0⟩ := by
          cases l with
          | nil => simp at hp
          | cons e m => rfl
        rw [← List.drop_one, ← e0]
        exact hl
    · rw [if_pos h1, if_neg h2, impl_TickAt.j0, if_pos (c := true = true) rfl, if_neg (fun h => h2 h.2.1)]
      rfl
  · rw [if_neg h1, impl_TickAt.j0, if_pos (c := true = true) rfl, if_neg (fun h => h1 h.1)]
    rfl
end Go.Proofs.Ytbhlmeghbfmgiaa.F

namespace Go.Proofs.Ytbhlmeghbfmgiaa.F
open Go.RowKit Go.Proofs.Ytbhlmeghbfmgiaa.Opened Go.Proofs.YtbhlmeghbfmgiaaW.PrintWords Go.Proofs.YtbhlmeghbfmgiaaW.PrintLast Go.Proofs.YtbhlmeghbfmgiaaW.PrintMore
set_option linter.unusedVariables false
set_option linter.unusedSimpArgs false
def rateStep (tick : Int) (r : Int) (t : Tmp) : Int := if t.f0 ≤ tick then t.f1 else r
def rateAt (l : List Tmp) (tick : Int) : Int := if isTempoB l = true then l.foldl (rateStep tick) 0 else 0
theorem impl_RateAt.loop (l : List Tmp) (tick : Int) (hm : l.length ≤ 9223372036854775807) : ∀ (d k : Nat) (acc : Int) (n : Nat), l.length - n ≤ d → d < k → impl_RateAt.l0 k tick acc l l.length (n : Int) = some ((l.drop n).foldl (rateStep tick) acc) := by
  intro d
  induction d with
  | zero =>
    intro k acc n hd hk
    obtain ⟨k, rfl⟩ : ∃ m, k = m + 1 := ⟨k - 1, by omega⟩
    simp only [impl_RateAt.l0]
    rw [if_neg (by omega), List.drop_of_length_le (by omega)]
    simp
  | succ d ih =>
    intro k acc n hd hk
    obtain ⟨k, rfl⟩ : ∃ m, k = m + 1 := ⟨k - 1, by omega⟩
    by_cases h : n < l.length
    · simp only [impl_RateAt.l0]
      rw [if_pos (by omega), if_pos (by omega), if_pos (by omega), rdT151 l n h, w1 h hm, List.drop_eq_getElem_cons h, List.foldl_cons]
      have e : rateStep tick acc l[n] = if l[n].f0 ≤ tick then l[n].f1 else acc := rfl
      rw [e]
      by_cases c : l[n].f0 ≤ tick
      · rw [if_pos c, if_pos c, ih k _ (n + 1) (by omega) (by omega)]
      · rw [if_neg c, if_neg c, ih k _ (n + 1) (by omega) (by omega)]
    · simp only [impl_RateAt.l0]
      rw [if_neg (by omega), List.drop_of_length_le (by omega)]
      simp
theorem impl_RateAt.ok (l : List Tmp) (tick : Int) (hm : l.length ≤ 1048576) (k : Nat) (hk : 3 * l.length + 10 < k) : impl_RateAt.f k l tick = some (rateAt l tick) := by
  unfold impl_RateAt.f rateAt
  rw [impl_IsTempo.ok l (by omega) k (by omega)]
  simp only [Option.bind_some]
  split
  · exact impl_RateAt.loop l tick (by omega) l.length k 0 0 (by omega) (by omega)
  · rfl
end Go.Proofs.Ytbhlmeghbfmgiaa.F

namespace Go.Proofs.Ytbhlmeghbfmgiaa.F
open Go.RowKit Go.Proofs.Ytbhlmeghbfmgiaa.Opened Go.Proofs.YtbhlmeghbfmgiaaW.PrintWords Go.Proofs.YtbhlmeghbfmgiaaW.PrintLast Go.Proofs.YtbhlmeghbfmgiaaW.PrintMore
set_option linter.unusedVariables false
set_option linter.unusedSimpArgs false
def scT (p : Int) (e : Tmp) : Tmp := ⟨e.f0, wrap64 (Int.tdiv (wrap64 (e.f1 * p)) 100)⟩
def scaleT (l : List Tmp) (p : Int) : List Tmp × Bool := if isTempoB l = true ∧ ((1 : Int) ≤ p ∧ p ≤ 1000) then (if isTempoB (l.map (scT p)) = true then (l.map (scT p), true) else (l, false)) else (l, false)
theorem scaleT_length (l : List Tmp) (p : Int) : (scaleT l p).1.length = l.length := by
  unfold scaleT
  repeat' split
  all_goals simp
theorem impl_Tempo.ok (l : List Tmp) (hm : l.length ≤ 1048576) : impl_Tempo.f l = some l := by
  unfold impl_Tempo.f
  simp only [Option.bind_some, List.length_nil, List.nil_append]
  rw [if_pos (by omega)]
theorem scStep (p : Int) (acc : List Tmp) (n : Nat) (hn : n < acc.length) : (acc.set n (scT p acc[n])).take (n + 1) ++ ((acc.set n (scT p acc[n])).drop (n + 1)).map (scT p) = acc.take n ++ (acc.drop n).map (scT p) := by
  rw [set_take _ _ _ hn, List.drop_set_of_lt (by omega), List.drop_eq_getElem_cons hn]
  simp only [List.map_cons, List.append_assoc, List.singleton_append]
theorem impl_ScaleTempo.loop (l : List Tmp) (p : Int) (hm : l.length ≤ 1048576) : ∀ (d k : Nat) (acc : List Tmp) (n : Nat), acc.length ≤ 1048576 → acc.length - n ≤ d → d + acc.length + 5 < k → impl_ScaleTempo.l0 k l p acc acc.length (n : Int) = some (if isTempoB (acc.take n ++ (acc.drop n).map (scT p)) = true then (acc.take n ++ (acc.drop n).map (scT p), true) else (l, false)) := by
  intro d
  induction d with
  | zero =>
    intro k acc n ha hd hk
    obtain ⟨k, rfl⟩ : ∃ m, k = m + 1 := ⟨k - 1, by omega⟩
    simp only [impl_ScaleTempo.l0]
    rw [if_neg (by omega), List.drop_of_length_le (by omega), List.take_of_length_le (by omega), impl_IsTempo.ok acc (by omega) k (by omega), impl_Tempo.ok l hm]
    simp only [Option.bind_some, List.map_nil, List.append_nil]
    split <;> rfl
  | succ d ih =>
    intro k acc n ha hd hk
    obtain ⟨k, rfl⟩ : ∃ m, k = m + 1 := ⟨k - 1, by omega⟩
    by_cases hn : n < acc.length
    · simp only [impl_ScaleTempo.l0]
      rw [if_pos (by omega), if_pos (by omega), if_pos (by omega), rdT151 acc n hn, w1 hn (by omega), Int.toNat_natCast]
      have e : (⟨acc[n].f0, wrap64 (Int.tdiv (wrap64 (acc[n].f1 * p)) 100)⟩ : Tmp) = scT p acc[n] := rfl
      rw [e]
      have hl : (acc.set n (scT p acc[n])).length = acc.length := by simp
      have := ih k (acc.set n (scT p acc[n])) (n + 1) (by omega) (by omega) (by omega)
      rw [hl, scStep p acc n hn] at this
      exact this
    · simp only [impl_ScaleTempo.l0]
      rw [if_neg (by omega), List.drop_of_length_le (by omega), List.take_of_length_le (by omega), impl_IsTempo.ok acc (by omega) k (by omega), impl_Tempo.ok l hm]
      simp only [Option.bind_some, List.map_nil, List.append_nil]
      split <;> rfl
theorem impl_ScaleTempo.ok (l : List Tmp) (p : Int) (hm : l.length ≤ 1048576) (k : Nat) (hk : 2 * l.length + 20 < k) : impl_ScaleTempo.f k l p = some (scaleT l p) := by
  obtain ⟨k, rfl⟩ : ∃ m, k = m + 1 := ⟨k - 1, by omega⟩
  unfold impl_ScaleTempo.f scaleT
  rw [impl_Tempo.ok l hm]
  simp only [Option.bind_some]
  rw [impl_IsTempo.ok l (by omega) _ (by omega), impl_InRange.ok]
  simp only [Option.bind_some, impl_ScaleTempo.j0]
  have hl := impl_ScaleTempo.loop l p hm l.length k l 0 hm (by omega) (by omega)
  simp only [List.take_zero, List.drop_zero, List.nil_append] at hl
  by_cases hs : isTempoB l = true
  · by_cases hr : (1 : Int) ≤ p ∧ p ≤ 1000
    · simp only [hs, hr, and_self, decide_true, Bool.not_true, Bool.false_eq_true, if_true, if_false]
      exact hl
    · simp [hs, hr]
  · simp [hs]
end Go.Proofs.Ytbhlmeghbfmgiaa.F

namespace Go.Proofs.Ytbhlmeghbfmgiaa.F
open Go.RowKit Go.Proofs.Ytbhlmeghbfmgiaa.Opened Go.Proofs.YtbhlmeghbfmgiaaW.PrintWords Go.Proofs.YtbhlmeghbfmgiaaW.PrintLast Go.Proofs.YtbhlmeghbfmgiaaW.PrintMore
set_option linter.unusedVariables false
set_option linter.unusedSimpArgs false
theorem and255 (x : Int) : 0 ≤ Go.bits .and .i64 x 255 ∧ Go.bits .and .i64 x 255 ≤ 255 := by
  have h : (BitVec.ofInt 64 x &&& BitVec.ofInt 64 255).toNat ≤ 255 := by
    rw [BitVec.toNat_and]
    exact Nat.le_trans Nat.and_le_right (by decide)
  have e : Go.bits .and .i64 x 255 = IntKind.i64.wrap (((BitVec.ofInt 64 x &&& BitVec.ofInt 64 255).toNat : Nat) : Int) := rfl
  rw [e]
  generalize (BitVec.ofInt 64 x &&& BitVec.ofInt 64 255).toNat = n at h
  rw [IntKind.wrap_i64]
  omega
theorem spec_l1New.loop (l : List Int) (hm : l.length ≤ 9223372036854775807) : ∀ (d k n : Nat) (h : Int), l.length - n ≤ d → d < k → ∃ h', spec_l1New.l0 k l h (n : Int) = some (l, 0, h') := by
  intro d
  induction d with
  | zero =>
    intro k n h hd hk
    obtain ⟨k, rfl⟩ : ∃ m, k = m + 1 := ⟨k - 1, by omega⟩
    simp only [spec_l1New.l0]
    rw [if_neg (by omega)]
    exact ⟨h, rfl⟩
  | succ d ih =>
    intro k n h hd hk
    obtain ⟨k, rfl⟩ : ∃ m, k = m + 1 := ⟨k - 1, by omega⟩
    simp only [spec_l1New.l0]
    by_cases c : n < l.length
    · rw [if_pos (by omega)]
      by_cases c2 : (n : Int) < 4000
      · rw [if_pos c2, if_pos (by omega), w1 c hm]
        exact ih k (n + 1) _ (by omega) (by omega)
      · rw [if_neg c2]
        exact ⟨h, rfl⟩
    · rw [if_neg (by omega)]
      exact ⟨h, rfl⟩
theorem spec_l1New.ok (l : List Int) (hm : l.length ≤ 9223372036854775807) (k : Nat) (hk : l.length < k) : ∃ h', spec_l1New.f k l = some (l, 0, h') := by
  unfold spec_l1New.f
  exact spec_l1New.loop l hm l.length k 0 _ (by omega) hk
theorem spec_l1Byte.ok (b : List Int) (i h : Int) (hb : b.length ≤ 1048576) (hi : 0 ≤ i) (hi' : i ≤ b.length) : ∃ x i' h', spec_l1Byte.f b i h = some (x, i', h') ∧ (0 ≤ x ∧ x ≤ 255) ∧ 0 ≤ i' ∧ i' ≤ b.length := by
  unfold spec_l1Byte.f
  by_cases c : i < (b.length : Int)
  · rw [if_pos c, if_pos hi]
    have e : wrap64 (i + 1) = i + 1 := wid (by omega) (by omega)
    exact ⟨_, _, _, rfl, and255 _, by omega, by omega⟩
  · rw [if_neg c]
    exact ⟨_, _, _, rfl, and255 _, by omega, by omega⟩
theorem tmodR (x n : Int) (hx : 0 ≤ x) (hn : 0 < n) : 0 ≤ Int.tmod x n ∧ Int.tmod x n < n := by
  rw [Int.tmod_eq_emod_of_nonneg hx]
  exact ⟨Int.emod_nonneg _ (by omega), Int.emod_lt_of_pos _ hn⟩
theorem spec_l1Below.ok (b : List Int) (i h n : Int) (hb : b.length ≤ 1048576) (hi : 0 ≤ i) (hi' : i ≤ b.length) : ∃ x i' h', spec_l1Below.f b i h n = some (x, i', h') ∧ 0 ≤ x ∧ (x < n ∨ (n ≤ 0 ∧ x = 0)) ∧ 0 ≤ i' ∧ i' ≤ b.length := by
  unfold spec_l1Below.f
  by_cases c : n ≤ 0
  · rw [if_pos c]
    exact ⟨_, _, _, rfl, by omega, by omega, hi, hi'⟩
  · rw [if_neg c]
    obtain ⟨x, i1, h1, e1, bx, j1, j1'⟩ := spec_l1Byte.ok b i h hb hi hi'
    rw [e1]
    simp only [Option.bind_some]
    rw [if_neg (show ¬ n = 0 by omega)]
    by_cases c2 : n ≤ 256
    · rw [if_pos c2]
      have := tmodR x n (by omega) (by omega)
      exact ⟨_, _, _, rfl, by omega, by omega, j1, j1'⟩
    · rw [if_neg c2]
      obtain ⟨y, i2, h2, e2, by_, j2, j2'⟩ := spec_l1Byte.ok b i1 h1 hb j1 j1'
      rw [e2]
      simp only [Option.bind_some]
      obtain ⟨z, i3, h3, e3, bz, j3, j3'⟩ := spec_l1Byte.ok b i2 h2 hb j2 j2'
      rw [e3]
      simp only [Option.bind_some]
      rw [if_neg (show ¬ n = 0 by omega)]
      have e : wrap64 (wrap64 (wrap64 (x * 65536) + wrap64 (y * 256)) + z) = x * 65536 + y * 256 + z := by unfold wrap64; omega
      have := tmodR (x * 65536 + y * 256 + z) n (by omega) (by omega)
      rw [e]
      exact ⟨_, _, _, rfl, by omega, by omega, j3, j3'⟩
theorem spec_l1Below.ok' (b : List Int) (i h n : Int) (hn : 0 < n) (hb : b.length ≤ 1048576) (hi : 0 ≤ i) (hi' : i ≤ b.length) : ∃ x i' h', spec_l1Below.f b i h n = some (x, i', h') ∧ 0 ≤ x ∧ x < n ∧ 0 ≤ i' ∧ i' ≤ b.length := by
  obtain ⟨x, i', h', e, a1, a2, a3, a4⟩ := spec_l1Below.ok b i h n hb hi hi'
  exact ⟨x, i', h', e, a1, by omega, a3, a4⟩
theorem spec_l1Int.ok (b : List Int) (i h : Int) (l : List Int) (hl : 0 < l.length) (hb : b.length ≤ 1048576) (hi : 0 ≤ i) (hi' : i ≤ b.length) : ∃ x i' h', spec_l1Int.f b i h l = some (x, i', h') ∧ x ∈ l ∧ 0 ≤ i' ∧ i' ≤ b.length := by
  unfold spec_l1Int.f
  obtain ⟨x, i', h', e, a1, a2, a3, a4⟩ := spec_l1Below.ok' b i h l.length (by omega) hb hi hi'
  rw [e]
  simp only [Option.bind_some]
  rw [if_pos a1, if_pos a2]
  refine ⟨_, _, _, rfl, ?_, a3, a4⟩
  obtain ⟨m, rfl⟩ := Int.eq_ofNat_of_zero_le a1
  rw [rd_nat l m (by omega)]
  exact List.getElem_mem _
end Go.Proofs.Ytbhlmeghbfmgiaa.F

namespace Go.Proofs.Ytbhlmeghbfmgiaa.F
open Go.RowKit Go.Proofs.Ytbhlmeghbfmgiaa.Opened Go.Proofs.YtbhlmeghbfmgiaaW.PrintWords Go.Proofs.YtbhlmeghbfmgiaaW.PrintLast Go.Proofs.YtbhlmeghbfmgiaaW.PrintMore
set_option linter.unusedVariables false
set_option linter.unusedSimpArgs false
theorem spec_l1Once.ok (b : List Int) (i h n : Int) (hn : 0 < n) (hb : b.length ≤ 1048576) (hi : 0 ≤ i) (hi' : i ≤ b.length) : ∃ q i' h', spec_l1Once.f b i h n = some (q, i', h') ∧ 0 ≤ i' ∧ i' ≤ b.length := by
  unfold spec_l1Once.f
  obtain ⟨x, i', h', e, a1, a2, a3, a4⟩ := spec_l1Below.ok' b i h n hn hb hi hi'
  rw [e]
  exact ⟨_, _, _, rfl, a3, a4⟩
theorem spec_l11Draw.loop (b : List Int) (hb : b.length ≤ 1048576) : ∀ (d k : Nat) (acc : List Tmp) (a i h : Int), 0 ≤ i → i ≤ b.length → d < k → acc.length + d ≤ 1000 → ∃ l i' h', spec_l11Draw.l0 k acc a (d : Int) b i h = some (l, i', h') ∧ l.length = acc.length + d ∧ 0 ≤ i' ∧ i' ≤ b.length := by
  intro d
  induction d with
  | zero =>
    intro k acc a i h hi hi' hk ha
    obtain ⟨k, rfl⟩ : ∃ m, k = m + 1 := ⟨k - 1, by omega⟩
    simp only [spec_l11Draw.l0]
    rw [if_neg (by omega)]
    exact ⟨_, _, _, rfl, by omega, hi, hi'⟩
  | succ d ih =>
    intro k acc a i h hi hi' hk ha
    obtain ⟨k, rfl⟩ : ∃ m, k = m + 1 := ⟨k - 1, by omega⟩
    simp only [spec_l11Draw.l0]
    rw [if_pos (by omega)]
    obtain ⟨x1, i1, h1, e1, a1, b1, c1, d1⟩ := spec_l1Below.ok' b i h 50 (by omega) hb hi hi'
    rw [e1]
    simp only [Option.bind_some]
    obtain ⟨x2, i2, h2, e2, a2, c2, d2⟩ := spec_l1Int.ok b i1 h1 [40, 60, 72, 100, 120, 200, 77] (by simp) hb c1 d1
    rw [e2]
    simp only [Option.bind_some]
    have e : wrap64 (((d + 1 : Nat) : Int) - 1) = (d : Int) := by unfold wrap64; omega
    rw [if_pos (by omega), e]
    obtain ⟨l, i', h', e4, a4, b4, c4⟩ := ih k (acc ++ [⟨wrap64 ((wrap64 (a + 1)) + x1), x2⟩]) (wrap64 ((wrap64 (a + 1)) + x1)) i2 h2 c2 d2 (by omega) (by simp; omega)
    refine ⟨l, i', h', e4, ?_, b4, c4⟩
    rw [a4]
    simp
    omega
theorem spec_l11Draw.ok (b : List Int) (hb : b.length ≤ 1048576) (k : Nat) (hk : 40 < k) (i h : Int) (hi : 0 ≤ i) (hi' : i ≤ b.length) : ∃ l i' h', spec_l11Draw.f k b i h = some (l, i', h') ∧ 1 ≤ l.length ∧ l.length ≤ 4 ∧ 0 ≤ i' ∧ i' ≤ b.length := by
  unfold spec_l11Draw.f
  obtain ⟨x2, i2, h2, e2, a2, c2, d2⟩ := spec_l1Int.ok b i h [60, 90, 120, 50, 144] (by simp) hb hi hi'
  rw [e2]
  simp only [Option.bind_some]
  obtain ⟨x1, i1, h1, e1, a1, b1, c1, d1⟩ := spec_l1Below.ok' b i2 h2 4 (by omega) hb c2 d2
  rw [e1]
  simp only [Option.bind_some]
  obtain ⟨m, rfl⟩ := Int.eq_ofNat_of_zero_le a1
  obtain ⟨l, i', h', e4, a4, b4, c4⟩ := spec_l11Draw.loop b hb m k [⟨0, x2⟩] 0 i1 h1 c1 d1 (by omega) (by simp; omega)
  exact ⟨l, i', h', e4, by simp at a4; omega, by simp at a4; omega, b4, c4⟩
theorem spec_l11Any.ok (b : List Int) (hb : b.length ≤ 1048576) (k : Nat) (hk : 40 < k) (i h : Int) (hi : 0 ≤ i) (hi' : i ≤ b.length) : ∃ l i' h', spec_l11Any.f k b i h = some (l, i', h') ∧ l.length ≤ 4 ∧ 0 ≤ i' ∧ i' ≤ b.length := by
  unfold spec_l11Any.f
  obtain ⟨l, i1, h1, e1, a1, a1', c1, d1⟩ := spec_l11Draw.ok b hb k hk i h hi hi'
  rw [e1]
  simp only [Option.bind_some]
  obtain ⟨x2, i2, h2, e2, a2, b2, c2, d2⟩ := spec_l1Below.ok' b i1 h1 l.length (by omega) hb c1 d1
  rw [e2]
  simp only [Option.bind_some]
  obtain ⟨x3, i3, h3, e3, a3, b3, c3, d3⟩ := spec_l1Below.ok' b i2 h2 9 (by omega) hb c2 d2
  rw [e3]
  simp only [Option.bind_some]
  by_cases s0 : x3 = 0
  · rw [if_pos s0]
    obtain ⟨x4, i4, h4, e4, a4, c4, d4⟩ := spec_l1Int.ok b i3 h3 [-1, 0, 2000, 2001] (by simp) hb c3 d3
    rw [e4]
    simp only [Option.bind_some]
    rw [if_pos a2, if_pos b2]
    exact ⟨_, _, _, rfl, by simp; omega, c4, d4⟩
  · rw [if_neg s0]
    by_cases s1 : x3 = 1
    · rw [if_pos s1]
      obtain ⟨x4, i4, h4, e4, a4, c4, d4⟩ := spec_l1Int.ok b i3 h3 [19, 20, 300, 301] (by simp) hb c3 d3
      rw [e4]
      simp only [Option.bind_some]
      rw [if_pos a2, if_pos b2]
      exact ⟨_, _, _, rfl, by simp; omega, c4, d4⟩
    · rw [if_neg s1]
      by_cases s2 : x3 = 2
      · rw [if_pos s2]
        exact ⟨_, _, _, rfl, by simp, c3, d3⟩
      · rw [if_neg s2]
        exact ⟨_, _, _, rfl, by omega, c3, d3⟩
end Go.Proofs.Ytbhlmeghbfmgiaa.F

namespace Go.Proofs.Ytbhlmeghbfmgiaa.Pure
open Go.RowKit Go.Proofs.Ytbhlmeghbfmgiaa.F Go.Proofs.Ytbhlmeghbfmgiaa.Opened Go.Proofs.YtbhlmeghbfmgiaaW.PrintWords Go.Proofs.YtbhlmeghbfmgiaaW.PrintLast Go.Proofs.YtbhlmeghbfmgiaaW.PrintMore
set_option linter.unusedVariables false
set_option linter.unusedSimpArgs false
theorem drawTime (b : List Int) (hb : b.length ≤ 1048576) (k : Nat) (hk : b.length + 100 < k) : ∃ l t, spec_DrawTimeOf.f k b = some (l, t) ∧ l.length ≤ 4 ∧ (-1 ≤ t ∧ t ≤ 2001) := by
  unfold spec_DrawTimeOf.f
  obtain ⟨h0, e0⟩ := spec_l1New.ok b (by omega) k (by omega)
  rw [e0]
  simp only [Option.bind_some]
  obtain ⟨l, i1, h1, e1, a1, c1, d1⟩ := spec_l11Any.ok b hb k (by omega) 0 h0 (by omega) (by omega)
  rw [e1]
  simp only [Option.bind_some]
  obtain ⟨x2, i2, h2, e2, a2, b2, c2, d2⟩ := spec_l1Below.ok' b i1 h1 200 (by omega) hb c1 d1
  rw [e2]
  simp only [Option.bind_some]
  obtain ⟨x3, i3, h3, e3, a3, b3, c3, d3⟩ := spec_l1Below.ok' b i2 h2 200 (by omega) hb c2 d2
  rw [e3]
  simp only [Option.bind_some]
  obtain ⟨x4, i4, h4, e4, a4, c4, d4⟩ := spec_l1Int.ok b i3 h3 [0, 1, 12, 2000, 2001, -1, x2, x3] (by simp) hb c3 d3
  rw [e4]
  refine ⟨_, _, rfl, a1, ?_⟩
  simp only [List.mem_cons, List.not_mem_nil, or_false] at a4
  omega
theorem drawTick (b : List Int) (hb : b.length ≤ 1048576) (k : Nat) (hk : b.length + 1000000000001000 < k) : ∃ l n d, spec_DrawTickAt.f k b = some (l, n, d) ∧ l.length ≤ 4 := by
  unfold spec_DrawTickAt.f
  obtain ⟨h0, e0⟩ := spec_l1New.ok b (by omega) k (by omega)
  rw [e0]
  simp only [Option.bind_some]
  obtain ⟨l, i1, h1, e1, a1, c1, d1⟩ := spec_l11Any.ok b hb k (by omega) 0 h0 (by omega) (by omega)
  rw [e1]
  simp only [Option.bind_some]
  obtain ⟨x2, i2, h2, e2, a2, b2, c2, d2⟩ := spec_l1Below.ok' b i1 h1 200 (by omega) hb c1 d1
  rw [e2]
  simp only [Option.bind_some]
  rw [spec_TimeOf.ok l x2 (by omega) k (by omega)]
  simp only [Option.bind_some]
  have j : ∀ (q : Bool) (i h : Int), 0 ≤ i → i ≤ b.length → ∃ n d, spec_DrawTickAt.j0 k l q b i h (timeOf l x2).1 (timeOf l x2).2.1 = some (l, n, d) := by
    intro q i h hi hi'
    obtain ⟨k, rfl⟩ : ∃ z, k = z + 1 := ⟨k - 1, by omega⟩
    rw [spec_DrawTickAt.j0]
    cases q with
    | false => exact ⟨_, _, rfl⟩
    | true =>
      rw [if_pos rfl]
      obtain ⟨y1, j1, g1, f1, p1, q1, r1, s1⟩ := spec_l1Below.ok' b i h 9000 (by omega) hb hi hi'
      rw [f1]
      simp only [Option.bind_some]
      obtain ⟨y2, j2, g2, f2, p2, q2, r2, s2⟩ := spec_l1Below.ok' b j1 g1 7 (by omega) hb r1 s1
      rw [f2]
      simp only [Option.bind_some]
      rw [spec_MakeRatio.ok _ _ k (by omega)]
      exact ⟨_, _, rfl⟩
  by_cases c : (timeOf l x2).2.2 = true
  · rw [if_pos c]
    obtain ⟨q, i3, h3, e3, c3, d3⟩ := spec_l1Once.ok b i2 h2 3 (by omega) hb c2 d2
    rw [e3]
    simp only [Option.bind_some]
    obtain ⟨n, d, e⟩ := j q i3 h3 c3 d3
    exact ⟨l, n, d, e, a1⟩
  · rw [if_neg c]
    obtain ⟨n, d, e⟩ := j true i2 h2 c2 d2
    exact ⟨l, n, d, e, a1⟩
theorem drawScale (b : List Int) (hb : b.length ≤ 1048576) (k : Nat) (hk : b.length + 100 < k) : ∃ l p, spec_DrawScaleTempo.f k b = some (l, p) ∧ l.length ≤ 4 := by
  unfold spec_DrawScaleTempo.f
  obtain ⟨h0, e0⟩ := spec_l1New.ok b (by omega) k (by omega)
  rw [e0]
  simp only [Option.bind_some]
  obtain ⟨l, i1, h1, e1, a1, c1, d1⟩ := spec_l11Any.ok b hb k (by omega) 0 h0 (by omega) (by omega)
  rw [e1]
  simp only [Option.bind_some]
  obtain ⟨x4, i4, h4, e4, a4, c4, d4⟩ := spec_l1Int.ok b i1 h1 [100, 50, 80, 150, 300, 1000, 1001, 0, 1] (by simp) hb c1 d1
  rw [e4]
  exact ⟨_, _, rfl, a1⟩
theorem rate_20 {l : List F.Tmp} {t : Int} (h : isTempoB l = true) (ht : 0 ≤ t) : 20 ≤ rateAt l t := by
  obtain ⟨hM, e, m, rfl, he⟩ := MarksT.ofB h
  unfold rateAt
  rw [if_pos h, List.foldl_cons]
  have e1 : rateStep t 0 e = e.f1 := by unfold rateStep; rw [if_pos (by omega)]
  rw [e1]
  have : ∀ (m : List F.Tmp) (a r : Int), MarksT a m → 20 ≤ r → 20 ≤ m.foldl (rateStep t) r := by
    intro m
    induction m with
    | nil => intro a r _ hr; exact hr
    | cons f m ih =>
      intro a r hm hr
      rw [List.foldl_cons]
      refine ih _ _ hm.2.2 ?_
      unfold rateStep
      split
      · exact hm.1.1
      · exact hr
  exact this m _ _ hM.2.2 hM.1.1
theorem partS (l : List Int) (hl : l.length ≤ 1048576) (k : Nat) (hk : l.length + 1000000000002000 < k) : laws_FnTempos.j2 k l false = some true := by
  obtain ⟨k, rfl⟩ : ∃ z, k = z + 1 := ⟨k - 1, by omega⟩
  rw [laws_FnTempos.j2, if_neg (by simp)]
  obtain ⟨b, p, e1, a1⟩ := drawScale l hl k (by omega)
  rw [e1]
  simp only [Option.bind_some]
  rw [impl_ScaleTempo.ok b p (by omega) k (by omega)]
  simp only [Option.bind_some]
  rw [if_pos (by rw [scaleT_length])]
  by_cases c : (scaleT b p).2 = true
  · rw [if_pos c, impl_IsTempo.ok _ (by rw [scaleT_length]; omega) k (by rw [scaleT_length]; omega)]
    simp only [Option.bind_some]
    unfold scaleT at c ⊢
    split at c
    · rename_i h1
      rw [if_pos h1]
      split at c
      · rename_i h2
        rw [if_pos h2]
        exact congrArg some h2
      · simp at c
    · simp at c
  · rw [if_neg c]
theorem partT' (l : List Int) (hl : l.length ≤ 1048576) (k : Nat) (hk : l.length + 1000000000003000 < k) : laws_FnTempos.j1 k l = some true := by
  obtain ⟨k, rfl⟩ : ∃ z, k = z + 1 := ⟨k - 1, by omega⟩
  rw [laws_FnTempos.j1]
  obtain ⟨a, n, d, e1, a1⟩ := drawTick l hl k (by omega)
  rw [e1]
  simp only [Option.bind_some]
  rw [impl_TickAt.ok a n d (by omega) k (by omega)]
  simp only [Option.bind_some]
  by_cases c : (tickAt a n d).2.2 = true
  · have := tickAt_nn c
    rw [if_pos c, impl_IsRatio.ok _ _ k (by omega)]
    simp only [Option.bind_some]
    rw [if_pos this.1, decide_eq_false (by omega)]
    exact partS l hl k (by omega)
  · rw [if_neg c]
    exact partS l hl k (by omega)
theorem pure_FnTempos (l0 : List Int) (hl : l0.length ≤ 9223372036854775807) (hg : ∀ x ∈ l0, (Lit.int .u8 x).wf = true) : ∃ k, laws_FnTempos.f k l0 = some true := by
  by_cases hb : (l0.length : Int) > 1048576
  · refine ⟨0, ?_⟩
    unfold laws_FnTempos.f laws_big.f
    simp [hb]
  · have hl2 : l0.length ≤ 1048576 := by omega
    obtain ⟨K, hK⟩ : ∃ K : Nat, l0.length + 1000000000005000 ≤ K := ⟨_, Nat.le_refl _⟩
    refine ⟨K + 1, ?_⟩
    unfold laws_FnTempos.f laws_big.f
    rw [Option.bind_some, if_neg (by rw [decide_eq_false hb]; simp)]
    obtain ⟨l, t, e1, a1, a2⟩ := drawTime l0 hl2 (K + 1) (by omega)
    rw [e1]
    simp only [Option.bind_some]
    rw [impl_TimeOf.ok l t (by omega) (K + 1) (by omega)]
    simp only [Option.bind_some]
    by_cases c : (timeOf l t).2.2 = true
    · have tv := timeOf_val c
      have hr := rate_20 tv.1.1 tv.1.2.1
      have hj : laws_FnTempos.j0 (K + 1) l0 l t false (timeOf l t).1 (timeOf l t).2.1 = some true := by
        rw [laws_FnTempos.j0, if_neg (by simp), wN (x := t + 1) (by omega), impl_TimeOf.ok l (t + 1) (by omega) K (by omega)]
        simp only [Option.bind_some]
        by_cases c2 : (timeOf l (t + 1)).2.2 = true
        · rw [if_pos c2, impl_LessRatio.ok _ _ _ _ K (by omega), timeOf_less c c2]
          simp only [Option.bind_some]
          rw [if_pos trivial, impl_RateAt.ok l t (by omega) K (by omega)]
          simp only [Option.bind_some]
          rw [if_neg (by omega)]
          exact partT' l0 hl2 K (by omega)
        · rw [if_neg c2, impl_RateAt.ok l t (by omega) K (by omega)]
          simp only [Option.bind_some]
          rw [if_neg (by omega)]
          exact partT' l0 hl2 K (by omega)
      rw [if_pos c, impl_TickAt.ok l _ _ (by omega) (K + 1) (by omega)]
      simp only [Option.bind_some]
      by_cases c3 : (tickAt l (timeOf l t).1 (timeOf l t).2.1).2.2 = true
      · obtain ⟨q1, q2⟩ := tickAt_timeOf c c3
        rw [if_pos c3, q1, q2, beq_self_eq_true, beq_self_eq_true]
        exact hj
      · rw [if_neg c3]
        exact hj
    · rw [if_neg c]
      exact partT' l0 hl2 (K + 1) (by omega)
end Go.Proofs.Ytbhlmeghbfmgiaa.Pure

namespace Go.Proofs.Ytbhlmeghbfmgiaa.fnTempos
open Go.ChangeShapes Go.WideShapes Go.ChangeAt Go.RowKit Go.Joins Go.Proofs.YtbhlmeghbfmgiaaW.PrintWords Go.Proofs.Ytbhlmeghbfmgiaa.Opened Go.Proofs.Ytbhlmeghbfmgiaa.F
open Go.ChangeMaps (open_string shut_string)
set_option linter.unusedVariables false
theorem own : ownKnob Try.prog.godebug = none := by kernel_rfl
theorem laidOut : laidOutB Try.prog = true := by kernel_rfl
set_option maxRecDepth 100000 in
theorem lifted (os : Os) (started : os.Started) (H : Type) (enc : TypeId × Value → H) :
    ReturnsInHanded {} Try.checked os 8 .any (Rows.fnTemposSpec.pre6 enc Try.prog Try.f8 Rows.fnTemposRow.domain false) (Rows.fnTemposSpec.post enc Try.prog Try.f8 false true false false) := by
  refine returnsInHanded_of_change_sized (C := Try.checked) own started (by kernel_rfl) Try.func8
    (ChangeSpec.witness6 (enc := enc) (C := Try.checked) false ⟨#[], #[.slice none 0 0], []⟩ 8 (by kernel_rfl) (by kernel_rfl) (by kernel_rfl) (by kernel_rfl)) ?_
  intro W base args ds gs before hval0 hW hcnd hsz0 _
  have hval : ∀ (j : Nat) t v, Try.f8.params[j]? = some t → args[j]? = some v → Value.okWide Try.prog W .any base t v := hval0
  have hW' := hW
  obtain ⟨p, q, hA0, hV, rfl, hfz, hnd⟩ := hW
  have hA : DataW.TrodAll enc Try.prog W 0 (fun _ => true) true Try.f8.params.toList args.toList ds p := hA0
  rw [Try.params8] at hA hval
  obtain ⟨v0, vs0, d0, ds0, p0, q0, hargs, rfl, rfl, h0, r0⟩ := trodAll_cons hA
  obtain ⟨rfl, rfl, rfl⟩ := trodAll_nil r0
  obtain rfl : args = #[v0] := by cases args; simp_all
  obtain ⟨rfl, rfl⟩ := trodVars_none hV
  have k0 := h0
  have lt0 : ∀ x ∈ p0, x.block < W.heap.size := by obtain ⟨m, hm⟩ := k0; exact DataW.trod_lt m _ _ _ hm
  obtain ⟨b0, len0, cap0, rfl⟩ := okWide_slice Try.underlying22 (hval 0 22 v0 rfl rfl)
  obtain ⟨l0, hl0, hc0, hC0, hg0⟩ := open_nums (k := .u8) Try.underlying22 Try.underlying5 (by kernel_rfl) h0
  subst hl0
  clear hA0 hval0 hsz0
  obtain ⟨kk, hp⟩ := Pure.pure_FnTempos l0 hC0.2.1 hg0
  refine (laws_FnTempos.calls kk _ _ l0 true W hC0 hc0 hp).mono fun e W' ⟨he, bel0⟩ => ?_
  have bel : Below W.heap.size W W' := bel0
  subst he
  exact ⟨_, rfl, _, _, _, [], _, [], hW', trodAll_mk1 (shut_bool Try.underlying4 _), (trodAll_cons_mk (Below.trod laidOut (by kernel_rfl) (of_decide_eq_true (by kernel_rfl)) k0 bel lt0) trodAll_mk0), rfl, bel.frame _, fun h => by cases h⟩
theorem over : Rows.fnTemposRow.holds Try.pinned (OpenSpec.ofChange Rows.fnTemposSpec) :=
  OpenClaim.holds_of_wide 8 Try.f8 rfl rfl rfl rfl rfl rfl rfl ⟨rfl, rfl, rfl, rfl, rfl⟩ rfl rfl rfl rfl rfl (by kernel_rfl) Try.func8 (by kernel_rfl)
    (of_decide_eq_true (by kernel_rfl)) (by unfold Func.isWrapper; first | (rw [if_pos (by decide +kernel)]; kernel_rfl) | (rw [if_neg (by decide +kernel)]; exact ⟨rfl, rfl⟩))
    (fun os started H enc _ => lifted os started H enc)
theorem proved : Rows.FnTemposSaid := over
#print axioms proved
end Go.Proofs.Ytbhlmeghbfmgiaa.fnTempos
namespace Go.Proofs.Ytbhlmeghbfmgiaa
theorem fnTempos_holds : Rows.FnTemposSaid := fnTempos.proved
end Go.Proofs.Ytbhlmeghbfmgiaa
