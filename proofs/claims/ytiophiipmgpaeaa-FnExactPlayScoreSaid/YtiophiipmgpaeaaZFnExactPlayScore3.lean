/- FnExactPlayScore, part 3 of 7: texts of the claim, joined into one file. -/
import Derived.Test.YtiophiipmgpaeaaZFnExactPlayScore2

namespace Go.Proofs.Ytiophiipmgpaeaa.F
open Go.RowKit Go.Proofs.YtiophiipmgpaeaaW.PrintWords Go.Proofs.YtiophiipmgpaeaaW.PrintLast Go.Proofs.YtiophiipmgpaeaaW.PrintMore
attribute [local go_sem] max2_int min2_int max_two min_two max_three min_three max_four min_four
set_option linter.unusedVariables false
set_option linter.unusedSimpArgs false
def spec_IsRatio.f (k : Nat) (a0_0 : Int) (a0_1 : Int) : Option (Bool) := (spec_l1In.f a0_1 1 1000000).bind fun t949 => (if t949 = true then ((spec_l1In.f a0_0 (-1000000000) 1000000000).bind fun t950 => (if t950 = true then ((spec_l4Abs.f a0_0).bind fun t951 => ((spec_l4Gcd.f k t951 a0_1).bind fun t952 => (some (t952 == 1)))) else (some false))) else (some false))
set_option maxHeartbeats 8000000 in
set_option maxRecDepth 100000 in
theorem spec_IsRatio.calls (k : Nat) (a0_0 : Int) (a0_1 : Int) (r : Bool) (w : World) (h : spec_IsRatio.f k a0_0 a0_1 = some r) :
  Calls Try.prog 149 #[.agg #[.int .i64 a0_0, .int .i64 a0_1]] w fun e w' => e = .returned (.bool r) ∧ Below w.heap.size w w' := by
 have hu134 := Try.underlying134
 have HB := sk_' (Below.refl w.heap.size w)
 have H : ((spec_l1In.f a0_1 1 1000000).bind fun t949 => (if t949 = true then ((spec_l1In.f a0_0 (-1000000000) 1000000000).bind fun t950 => (if t950 = true then ((spec_l4Abs.f a0_0).bind fun t951 => ((spec_l4Gcd.f k t951 a0_1).bind fun t952 => (some (t952 == 1)))) else (some false))) else (some false))) = some r := h
 clear h
 replace H := bs_' H
 obtain ⟨t949, A20, H⟩ := H
 try dsimp only at H
 have A2 := sk_' A20
 clear A20
 by_cases c3 : t949 = true
 ·
  subst c3
  rw [if_pos rfl] at H
  replace H := bs_' H
  obtain ⟨t950, A40, H⟩ := H
  try dsimp only at H
  have A4 := sk_' A40
  clear A40
  by_cases c5 : t950 = true
  ·
   subst c5
   rw [if_pos rfl] at H
   replace H := bs_' H
   obtain ⟨t951, A60, H⟩ := H
   try dsimp only at H
   have A6 := sk_' A60
   clear A60
   replace H := bs_' H
   obtain ⟨t952, A70, H⟩ := H
   try dsimp only at H
   have A7 := sk_' A70
   clear A70
   obtain rfl := Option.some.inj H
   go_enter Try.func149, Try.ntmps149
   go_wp2_with (first | ((with_reducible refine gate_dst (N := 1) rfl ?_); refine box_event ?hg (N := 1) ?hd (cs := #[.int .i64 a0_0, .int .i64 a0_1]) (t := 134) ?hr ?_; (case hd => rfl); (case hg => rfl); (case hr => first | (go_simp; done) | (go_simp; rfl)); intro gb948 hg w8 hbox hb; have n0_ := sk_' (pp_' (bm HB) hb); have n1_ := sk_' (hbox); have n2_ := sk_' ((by rw [hg]; exact (ps_' (bm HB)) : w.heap.size ≤ gb948)); have n3_ := sk_' ((by rw [hg]; exact (ps_' (bm HB)) : w.heap.size ≤ gb948)); clear HB; have HB := n0_; have BK948 := n1_; have GW948 := n2_; have GE948 := n3_; clear n0_ n1_ n2_ n3_; clear hb hbox hg; have hcz9_0 : w8.cell? ⟨gb948, 0, none⟩ = some (.int .i64 a0_0) := (kc_' BK948.out 0).trans rfl; have hcz9_1 : w8.cell? ⟨gb948, 1, none⟩ = some (.int .i64 a0_1) := (kc_' BK948.out 1).trans rfl; have hfz9_0 := kf_' BK948.out 0; have hfz9_1 := kf_' BK948.out 1) | (go_at_call 80; (with_reducible refine (spec_l1In.calls a0_1 1 1000000 true _ A2.out).mono ?_); rintro e w' ⟨rfl, ⟨nd, rfl⟩⟩; (try first | exact ⟨rfl, _, World.drewN_drewN _ _ _⟩ | exact ⟨rfl, _, Eq.trans (World.drewN_drewN _ _ _) (congrArg (World.drewN _) (Nat.add_assoc _ _ _))⟩)) | (go_at_call 80; (with_reducible refine (spec_l1In.calls a0_0 (-1000000000) 1000000000 true _ A4.out).mono ?_); rintro e w' ⟨rfl, ⟨nd, rfl⟩⟩; (try first | exact ⟨rfl, _, World.drewN_drewN _ _ _⟩ | exact ⟨rfl, _, Eq.trans (World.drewN_drewN _ _ _) (congrArg (World.drewN _) (Nat.add_assoc _ _ _))⟩)) | (go_at_call 177; (with_reducible refine (spec_l4Abs.calls a0_0 t951 _ A6.out).mono ?_); rintro e w' ⟨rfl, ⟨nd, rfl⟩⟩; (try first | exact ⟨rfl, _, World.drewN_drewN _ _ _⟩ | exact ⟨rfl, _, Eq.trans (World.drewN_drewN _ _ _) (congrArg (World.drewN _) (Nat.add_assoc _ _ _))⟩)) | (go_at_call 176; (with_reducible refine (spec_l4Gcd.calls k t951 a0_1 t952 _ A7.out).mono ?_); rintro e w' ⟨rfl, ⟨nd, rfl⟩⟩; (try first | exact ⟨rfl, _, World.drewN_drewN _ _ _⟩ | exact ⟨rfl, _, Eq.trans (World.drewN_drewN _ _ _) (congrArg (World.drewN _) (Nat.add_assoc _ _ _))⟩)))
   repeat (go_quiet (first | ((with_reducible refine gate_dst (N := 1) rfl ?_); refine box_event ?hg (N := 1) ?hd (cs := #[.int .i64 a0_0, .int .i64 a0_1]) (t := 134) ?hr ?_; (case hd => rfl); (case hg => rfl); (case hr => first | (go_simp; done) | (go_simp; rfl)); intro gb948 hg w8 hbox hb; have n0_ := sk_' (pp_' (bm HB) hb); have n1_ := sk_' (hbox); have n2_ := sk_' ((by rw [hg]; exact (ps_' (bm HB)) : w.heap.size ≤ gb948)); have n3_ := sk_' ((by rw [hg]; exact (ps_' (bm HB)) : w.heap.size ≤ gb948)); clear HB; have HB := n0_; have BK948 := n1_; have GW948 := n2_; have GE948 := n3_; clear n0_ n1_ n2_ n3_; clear hb hbox hg; have hcz9_0 : w8.cell? ⟨gb948, 0, none⟩ = some (.int .i64 a0_0) := (kc_' BK948.out 0).trans rfl; have hcz9_1 : w8.cell? ⟨gb948, 1, none⟩ = some (.int .i64 a0_1) := (kc_' BK948.out 1).trans rfl; have hfz9_0 := kf_' BK948.out 0; have hfz9_1 := kf_' BK948.out 1) | (go_at_call 80; (with_reducible refine (spec_l1In.calls a0_1 1 1000000 true _ A2.out).mono ?_); rintro e w' ⟨rfl, ⟨nd, rfl⟩⟩; (try first | exact ⟨rfl, _, World.drewN_drewN _ _ _⟩ | exact ⟨rfl, _, Eq.trans (World.drewN_drewN _ _ _) (congrArg (World.drewN _) (Nat.add_assoc _ _ _))⟩)) | (go_at_call 80; (with_reducible refine (spec_l1In.calls a0_0 (-1000000000) 1000000000 true _ A4.out).mono ?_); rintro e w' ⟨rfl, ⟨nd, rfl⟩⟩; (try first | exact ⟨rfl, _, World.drewN_drewN _ _ _⟩ | exact ⟨rfl, _, Eq.trans (World.drewN_drewN _ _ _) (congrArg (World.drewN _) (Nat.add_assoc _ _ _))⟩)) | (go_at_call 177; (with_reducible refine (spec_l4Abs.calls a0_0 t951 _ A6.out).mono ?_); rintro e w' ⟨rfl, ⟨nd, rfl⟩⟩; (try first | exact ⟨rfl, _, World.drewN_drewN _ _ _⟩ | exact ⟨rfl, _, Eq.trans (World.drewN_drewN _ _ _) (congrArg (World.drewN _) (Nat.add_assoc _ _ _))⟩)) | (go_at_call 176; (with_reducible refine (spec_l4Gcd.calls k t951 a0_1 t952 _ A7.out).mono ?_); rintro e w' ⟨rfl, ⟨nd, rfl⟩⟩; (try first | exact ⟨rfl, _, World.drewN_drewN _ _ _⟩ | exact ⟨rfl, _, Eq.trans (World.drewN_drewN _ _ _) (congrArg (World.drewN _) (Nat.add_assoc _ _ _))⟩))); try go_wp2_with (first | ((with_reducible refine gate_dst (N := 1) rfl ?_); refine box_event ?hg (N := 1) ?hd (cs := #[.int .i64 a0_0, .int .i64 a0_1]) (t := 134) ?hr ?_; (case hd => rfl); (case hg => rfl); (case hr => first | (go_simp; done) | (go_simp; rfl)); intro gb948 hg w8 hbox hb; have n0_ := sk_' (pp_' (bm HB) hb); have n1_ := sk_' (hbox); have n2_ := sk_' ((by rw [hg]; exact (ps_' (bm HB)) : w.heap.size ≤ gb948)); have n3_ := sk_' ((by rw [hg]; exact (ps_' (bm HB)) : w.heap.size ≤ gb948)); clear HB; have HB := n0_; have BK948 := n1_; have GW948 := n2_; have GE948 := n3_; clear n0_ n1_ n2_ n3_; clear hb hbox hg; have hcz9_0 : w8.cell? ⟨gb948, 0, none⟩ = some (.int .i64 a0_0) := (kc_' BK948.out 0).trans rfl; have hcz9_1 : w8.cell? ⟨gb948, 1, none⟩ = some (.int .i64 a0_1) := (kc_' BK948.out 1).trans rfl; have hfz9_0 := kf_' BK948.out 0; have hfz9_1 := kf_' BK948.out 1) | (go_at_call 80; (with_reducible refine (spec_l1In.calls a0_1 1 1000000 true _ A2.out).mono ?_); rintro e w' ⟨rfl, ⟨nd, rfl⟩⟩; (try first | exact ⟨rfl, _, World.drewN_drewN _ _ _⟩ | exact ⟨rfl, _, Eq.trans (World.drewN_drewN _ _ _) (congrArg (World.drewN _) (Nat.add_assoc _ _ _))⟩)) | (go_at_call 80; (with_reducible refine (spec_l1In.calls a0_0 (-1000000000) 1000000000 true _ A4.out).mono ?_); rintro e w' ⟨rfl, ⟨nd, rfl⟩⟩; (try first | exact ⟨rfl, _, World.drewN_drewN _ _ _⟩ | exact ⟨rfl, _, Eq.trans (World.drewN_drewN _ _ _) (congrArg (World.drewN _) (Nat.add_assoc _ _ _))⟩)) | (go_at_call 177; (with_reducible refine (spec_l4Abs.calls a0_0 t951 _ A6.out).mono ?_); rintro e w' ⟨rfl, ⟨nd, rfl⟩⟩; (try first | exact ⟨rfl, _, World.drewN_drewN _ _ _⟩ | exact ⟨rfl, _, Eq.trans (World.drewN_drewN _ _ _) (congrArg (World.drewN _) (Nat.add_assoc _ _ _))⟩)) | (go_at_call 176; (with_reducible refine (spec_l4Gcd.calls k t951 a0_1 t952 _ A7.out).mono ?_); rintro e w' ⟨rfl, ⟨nd, rfl⟩⟩; (try first | exact ⟨rfl, _, World.drewN_drewN _ _ _⟩ | exact ⟨rfl, _, Eq.trans (World.drewN_drewN _ _ _) (congrArg (World.drewN _) (Nat.add_assoc _ _ _))⟩))))
   go_ret
   exact ⟨rfl, bm HB⟩
  replace c5 := Bool.eq_false_iff.mpr c5
  subst c5
  rw [if_neg (show ¬ (false = true) by decide)] at H
  obtain rfl := Option.some.inj H
  go_enter Try.func149, Try.ntmps149
  go_wp2_with (first | ((with_reducible refine gate_dst (N := 1) rfl ?_); refine box_event ?hg (N := 1) ?hd (cs := #[.int .i64 a0_0, .int .i64 a0_1]) (t := 134) ?hr ?_; (case hd => rfl); (case hg => rfl); (case hr => first | (go_simp; done) | (go_simp; rfl)); intro gb948 hg w10 hbox hb; have n0_ := sk_' (pp_' (bm HB) hb); have n1_ := sk_' (hbox); have n2_ := sk_' ((by rw [hg]; exact (ps_' (bm HB)) : w.heap.size ≤ gb948)); have n3_ := sk_' ((by rw [hg]; exact (ps_' (bm HB)) : w.heap.size ≤ gb948)); clear HB; have HB := n0_; have BK948 := n1_; have GW948 := n2_; have GE948 := n3_; clear n0_ n1_ n2_ n3_; clear hb hbox hg; have hcz11_0 : w10.cell? ⟨gb948, 0, none⟩ = some (.int .i64 a0_0) := (kc_' BK948.out 0).trans rfl; have hcz11_1 : w10.cell? ⟨gb948, 1, none⟩ = some (.int .i64 a0_1) := (kc_' BK948.out 1).trans rfl; have hfz11_0 := kf_' BK948.out 0; have hfz11_1 := kf_' BK948.out 1) | (go_at_call 80; (with_reducible refine (spec_l1In.calls a0_1 1 1000000 true _ A2.out).mono ?_); rintro e w' ⟨rfl, ⟨nd, rfl⟩⟩; (try first | exact ⟨rfl, _, World.drewN_drewN _ _ _⟩ | exact ⟨rfl, _, Eq.trans (World.drewN_drewN _ _ _) (congrArg (World.drewN _) (Nat.add_assoc _ _ _))⟩)) | (go_at_call 80; (with_reducible refine (spec_l1In.calls a0_0 (-1000000000) 1000000000 false _ A4.out).mono ?_); rintro e w' ⟨rfl, ⟨nd, rfl⟩⟩; (try first | exact ⟨rfl, _, World.drewN_drewN _ _ _⟩ | exact ⟨rfl, _, Eq.trans (World.drewN_drewN _ _ _) (congrArg (World.drewN _) (Nat.add_assoc _ _ _))⟩)))
  repeat (go_quiet (first | ((with_reducible refine gate_dst (N := 1) rfl ?_); refine box_event ?hg (N := 1) ?hd (cs := #[.int .i64 a0_0, .int .i64 a0_1]) (t := 134) ?hr ?_; (case hd => rfl); (case hg => rfl); (case hr => first | (go_simp; done) | (go_simp; rfl)); intro gb948 hg w10 hbox hb; have n0_ := sk_' (pp_' (bm HB) hb); have n1_ := sk_' (hbox); have n2_ := sk_' ((by rw [hg]; exact (ps_' (bm HB)) : w.heap.size ≤ gb948)); have n3_ := sk_' ((by rw [hg]; exact (ps_' (bm HB)) : w.heap.size ≤ gb948)); clear HB; have HB := n0_; have BK948 := n1_; have GW948 := n2_; have GE948 := n3_; clear n0_ n1_ n2_ n3_; clear hb hbox hg; have hcz11_0 : w10.cell? ⟨gb948, 0, none⟩ = some (.int .i64 a0_0) := (kc_' BK948.out 0).trans rfl; have hcz11_1 : w10.cell? ⟨gb948, 1, none⟩ = some (.int .i64 a0_1) := (kc_' BK948.out 1).trans rfl; have hfz11_0 := kf_' BK948.out 0; have hfz11_1 := kf_' BK948.out 1) | (go_at_call 80; (with_reducible refine (spec_l1In.calls a0_1 1 1000000 true _ A2.out).mono ?_); rintro e w' ⟨rfl, ⟨nd, rfl⟩⟩; (try first | exact ⟨rfl, _, World.drewN_drewN _ _ _⟩ | exact ⟨rfl, _, Eq.trans (World.drewN_drewN _ _ _) (congrArg (World.drewN _) (Nat.add_assoc _ _ _))⟩)) | (go_at_call 80; (with_reducible refine (spec_l1In.calls a0_0 (-1000000000) 1000000000 false _ A4.out).mono ?_); rintro e w' ⟨rfl, ⟨nd, rfl⟩⟩; (try first | exact ⟨rfl, _, World.drewN_drewN _ _ _⟩ | exact ⟨rfl, _, Eq.trans (World.drewN_drewN _ _ _) (congrArg (World.drewN _) (Nat.add_assoc _ _ _))⟩))); try go_wp2_with (first | ((with_reducible refine gate_dst (N := 1) rfl ?_); refine box_event ?hg (N := 1) ?hd (cs := #[.int .i64 a0_0, .int .i64 a0_1]) (t := 134) ?hr ?_; (case hd => rfl); (case hg => rfl); (case hr => first | (go_simp; done) | (go_simp; rfl)); intro gb948 hg w10 hbox hb; have n0_ := sk_' (pp_' (bm HB) hb); have n1_ := sk_' (hbox); have n2_ := sk_' ((by rw [hg]; exact (ps_' (bm HB)) : w.heap.size ≤ gb948)); have n3_ := sk_' ((by rw [hg]; exact (ps_' (bm HB)) : w.heap.size ≤ gb948)); clear HB; have HB := n0_; have BK948 := n1_; have GW948 := n2_; have GE948 := n3_; clear n0_ n1_ n2_ n3_; clear hb hbox hg; have hcz11_0 : w10.cell? ⟨gb948, 0, none⟩ = some (.int .i64 a0_0) := (kc_' BK948.out 0).trans rfl; have hcz11_1 : w10.cell? ⟨gb948, 1, none⟩ = some (.int .i64 a0_1) := (kc_' BK948.out 1).trans rfl; have hfz11_0 := kf_' BK948.out 0; have hfz11_1 := kf_' BK948.out 1) | (go_at_call 80; (with_reducible refine (spec_l1In.calls a0_1 1 1000000 true _ A2.out).mono ?_); rintro e w' ⟨rfl, ⟨nd, rfl⟩⟩; (try first | exact ⟨rfl, _, World.drewN_drewN _ _ _⟩ | exact ⟨rfl, _, Eq.trans (World.drewN_drewN _ _ _) (congrArg (World.drewN _) (Nat.add_assoc _ _ _))⟩)) | (go_at_call 80; (with_reducible refine (spec_l1In.calls a0_0 (-1000000000) 1000000000 false _ A4.out).mono ?_); rintro e w' ⟨rfl, ⟨nd, rfl⟩⟩; (try first | exact ⟨rfl, _, World.drewN_drewN _ _ _⟩ | exact ⟨rfl, _, Eq.trans (World.drewN_drewN _ _ _) (congrArg (World.drewN _) (Nat.add_assoc _ _ _))⟩))))
  go_ret
  exact ⟨rfl, bm HB⟩
 replace c3 := Bool.eq_false_iff.mpr c3
 subst c3
 rw [if_neg (show ¬ (false = true) by decide)] at H
 obtain rfl := Option.some.inj H
 go_enter Try.func149, Try.ntmps149
 go_wp2_with (first | ((with_reducible refine gate_dst (N := 1) rfl ?_); refine box_event ?hg (N := 1) ?hd (cs := #[.int .i64 a0_0, .int .i64 a0_1]) (t := 134) ?hr ?_; (case hd => rfl); (case hg => rfl); (case hr => first | (go_simp; done) | (go_simp; rfl)); intro gb948 hg w12 hbox hb; have n0_ := sk_' (pp_' (bm HB) hb); have n1_ := sk_' (hbox); have n2_ := sk_' ((by rw [hg]; exact (ps_' (bm HB)) : w.heap.size ≤ gb948)); have n3_ := sk_' ((by rw [hg]; exact (ps_' (bm HB)) : w.heap.size ≤ gb948)); clear HB; have HB := n0_; have BK948 := n1_; have GW948 := n2_; have GE948 := n3_; clear n0_ n1_ n2_ n3_; clear hb hbox hg; have hcz13_0 : w12.cell? ⟨gb948, 0, none⟩ = some (.int .i64 a0_0) := (kc_' BK948.out 0).trans rfl; have hcz13_1 : w12.cell? ⟨gb948, 1, none⟩ = some (.int .i64 a0_1) := (kc_' BK948.out 1).trans rfl; have hfz13_0 := kf_' BK948.out 0; have hfz13_1 := kf_' BK948.out 1) | (go_at_call 80; (with_reducible refine (spec_l1In.calls a0_1 1 1000000 false _ A2.out).mono ?_); rintro e w' ⟨rfl, ⟨nd, rfl⟩⟩; (try first | exact ⟨rfl, _, World.drewN_drewN _ _ _⟩ | exact ⟨rfl, _, Eq.trans (World.drewN_drewN _ _ _) (congrArg (World.drewN _) (Nat.add_assoc _ _ _))⟩)))
 repeat (go_quiet (first | ((with_reducible refine gate_dst (N := 1) rfl ?_); refine box_event ?hg (N := 1) ?hd (cs := #[.int .i64 a0_0, .int .i64 a0_1]) (t := 134) ?hr ?_; (case hd => rfl); (case hg => rfl); (case hr => first | (go_simp; done) | (go_simp; rfl)); intro gb948 hg w12 hbox hb; have n0_ := sk_' (pp_' (bm HB) hb); have n1_ := sk_' (hbox); have n2_ := sk_' ((by rw [hg]; exact (ps_' (bm HB)) : w.heap.size ≤ gb948)); have n3_ := sk_' ((by rw [hg]; exact (ps_' (bm HB)) : w.heap.size ≤ gb948)); clear HB; have HB := n0_; have BK948 := n1_; have GW948 := n2_; have GE948 := n3_; clear n0_ n1_ n2_ n3_; clear hb hbox hg; have hcz13_0 : w12.cell? ⟨gb948, 0, none⟩ = some (.int .i64 a0_0) := (kc_' BK948.out 0).trans rfl; have hcz13_1 : w12.cell? ⟨gb948, 1, none⟩ = some (.int .i64 a0_1) := (kc_' BK948.out 1).trans rfl; have hfz13_0 := kf_' BK948.out 0; have hfz13_1 := kf_' BK948.out 1) | (go_at_call 80; (with_reducible refine (spec_l1In.calls a0_1 1 1000000 false _ A2.out).mono ?_); rintro e w' ⟨rfl, ⟨nd, rfl⟩⟩; (try first | exact ⟨rfl, _, World.drewN_drewN _ _ _⟩ | exact ⟨rfl, _, Eq.trans (World.drewN_drewN _ _ _) (congrArg (World.drewN _) (Nat.add_assoc _ _ _))⟩))); try go_wp2_with (first | ((with_reducible refine gate_dst (N := 1) rfl ?_); refine box_event ?hg (N := 1) ?hd (cs := #[.int .i64 a0_0, .int .i64 a0_1]) (t := 134) ?hr ?_; (case hd => rfl); (case hg => rfl); (case hr => first | (go_simp; done) | (go_simp; rfl)); intro gb948 hg w12 hbox hb; have n0_ := sk_' (pp_' (bm HB) hb); have n1_ := sk_' (hbox); have n2_ := sk_' ((by rw [hg]; exact (ps_' (bm HB)) : w.heap.size ≤ gb948)); have n3_ := sk_' ((by rw [hg]; exact (ps_' (bm HB)) : w.heap.size ≤ gb948)); clear HB; have HB := n0_; have BK948 := n1_; have GW948 := n2_; have GE948 := n3_; clear n0_ n1_ n2_ n3_; clear hb hbox hg; have hcz13_0 : w12.cell? ⟨gb948, 0, none⟩ = some (.int .i64 a0_0) := (kc_' BK948.out 0).trans rfl; have hcz13_1 : w12.cell? ⟨gb948, 1, none⟩ = some (.int .i64 a0_1) := (kc_' BK948.out 1).trans rfl; have hfz13_0 := kf_' BK948.out 0; have hfz13_1 := kf_' BK948.out 1) | (go_at_call 80; (with_reducible refine (spec_l1In.calls a0_1 1 1000000 false _ A2.out).mono ?_); rintro e w' ⟨rfl, ⟨nd, rfl⟩⟩; (try first | exact ⟨rfl, _, World.drewN_drewN _ _ _⟩ | exact ⟨rfl, _, Eq.trans (World.drewN_drewN _ _ _) (congrArg (World.drewN _) (Nat.add_assoc _ _ _))⟩))))
 go_ret
 exact ⟨rfl, bm HB⟩
end Go.Proofs.Ytiophiipmgpaeaa.F

namespace Go.Proofs.Ytiophiipmgpaeaa.F
open Go.RowKit Go.Proofs.YtiophiipmgpaeaaW.PrintWords Go.Proofs.YtiophiipmgpaeaaW.PrintLast Go.Proofs.YtiophiipmgpaeaaW.PrintMore
attribute [local go_sem] max2_int min2_int max_two min_two max_three min_three max_four min_four
set_option linter.unusedVariables false
set_option linter.unusedSimpArgs false
mutual
def spec_MakeRatio.j0 : Nat → Int → Int → Bool → Option (Int × Int × Bool)
 | 0, _, _, _ => none
 | k + 1, x0, x1, x26 => if x26 = true then (some (0, 0, false)) else (if x1 < 0 then (spec_MakeRatio.j1 k (wrap64 (-x0)) (wrap64 (-x1))) else (spec_MakeRatio.j1 k x0 x1))
def spec_MakeRatio.j1 : Nat → Int → Int → Option (Int × Int × Bool)
 | 0, _, _ => none
 | k + 1, x0, x1 => (spec_l4Abs.f x0).bind fun t956 => ((spec_l4Gcd.f k t956 x1).bind fun t957 => (if t957 = 0 then (none) else ((spec_IsRatio.f k (wrap64 (Int.tdiv x0 t957)) (wrap64 (Int.tdiv x1 t957))).bind fun t959 => (if t959 = true then (some (wrap64 (Int.tdiv x0 t957), wrap64 (Int.tdiv x1 t957), true)) else (some (0, 0, false))))))
end
def spec_MakeRatio.f (k : Nat) (a0 : Int) (a1 : Int) : Option (Int × Int × Bool) := (spec_l1In.f a0 (-1000000000000000) 1000000000000000).bind fun t954 => (if t954 = true then ((spec_l1In.f a1 (-1000000000000000) 1000000000000000).bind fun t955 => (if t955 = true then (spec_MakeRatio.j0 k a0 a1 (a1 == 0)) else (spec_MakeRatio.j0 k a0 a1 true))) else (spec_MakeRatio.j0 k a0 a1 true))
def spec_MakeRatio.T8 : Bool × List (List Nat × List Nat) := (true, [([], []), ([], []), ([0, 1], [0, 1]), ([], []), ([], []), ([3, 4], [3, 4]), ([2, 5], [2, 5]), ([], []), ([7, 6, 0, 1, 2, 3, 4, 5, 6, 7], [6, 7])])
def spec_MakeRatio.B8 : List Nat := [0, 0, 3, 0, 0, 24, 63, 0, 255]
theorem spec_MakeRatio.tab8 : rtab .any (opsOf Try.f147 8) = spec_MakeRatio.T8 := by kernel_rfl
theorem spec_MakeRatio.bits8 : waitsOk spec_MakeRatio.T8.2 spec_MakeRatio.B8 = true := by kernel_rfl
set_option maxHeartbeats 8000000 in
set_option maxRecDepth 100000 in
theorem spec_MakeRatio.calls (k : Nat) (a0 : Int) (a1 : Int) (r1 : Int) (r2 : Int) (r3 : Bool) (w : World) (h : spec_MakeRatio.f k a0 a1 = some (r1, r2, r3)) :
  Calls Try.prog 147 #[.int .i64 a0, .int .i64 a1] w fun e w' => e = .returned (.tuple #[.agg #[.int .i64 r1, .int .i64 r2], .bool r3]) ∧ Below w.heap.size w w' := by
 have hu134 := Try.underlying134
 have HB := sk_' (Below.refl w.heap.size w)
 have H : ((spec_l1In.f a0 (-1000000000000000) 1000000000000000).bind fun t954 => (if t954 = true then ((spec_l1In.f a1 (-1000000000000000) 1000000000000000).bind fun t955 => (if t955 = true then (spec_MakeRatio.j0 k a0 a1 (a1 == 0)) else (spec_MakeRatio.j0 k a0 a1 true))) else (spec_MakeRatio.j0 k a0 a1 true))) = some (r1, r2, r3) := h
 clear h
 have HC3 := sk_' H
 clear H
 go_enter Try.func147, Try.ntmps147
 go_upto_region 2 with (first | ((with_reducible refine gate_dst (N := 4) rfl ?_); refine box_event ?hg (N := 4) ?hd (cs := #[.int .i64 0, .int .i64 0]) (t := 134) ?hr ?_; (case hd => rfl); (case hg => rfl); (case hr => first | (go_simp; done) | (go_simp; rfl)); intro gb953 hg w4 hbox hb; have n0_ := sk_' (pp_' (bm HB) hb); have n1_ := sk_' (hbox); have n2_ := sk_' ((by rw [hg]; exact (ps_' (bm HB)) : w.heap.size ≤ gb953)); have n3_ := sk_' ((by rw [hg]; exact (ps_' (bm HB)) : w.heap.size ≤ gb953)); clear HB; have HB := n0_; have BK953 := n1_; have GW953 := n2_; have GE953 := n3_; clear n0_ n1_ n2_ n3_; clear hb hbox hg))
 (try simp only [Act.put, sa_', sz_', sc_'])
 go_cut [26] (fun v26 wc => ∃ (kq : Nat) (x26_2 : Bool), v26 = .bool x26_2 ∧ Aside0 (spec_MakeRatio.j0 kq a0 a1 x26_2 = some (r1, r2, r3)) ∧ Aside0 (kq ≤ k) ∧ Aside0 (wc.heap[gb953]? = some (.cells #[.int .i64 0, .int .i64 0] 134 (0, 0))) ∧ Aside0 (Below w.heap.size w wc))
 case first =>
  have H := HC3.out
  clear HC3
  replace H := bs_' H
  obtain ⟨t954, A50, H⟩ := H
  try dsimp only at H
  have A5 := sk_' A50
  clear A50
  by_cases c6 : t954 = true
  ·
   subst c6
   rw [if_pos rfl] at H
   replace H := bs_' H
   obtain ⟨t955, A70, H⟩ := H
   try dsimp only at H
   have A7 := sk_' A70
   clear A70
   by_cases c8 : t955 = true
   ·
    subst c8
    rw [if_pos rfl] at H
    have H' := sk_' H
    clear H
    go_wp2_with (first | ((with_reducible refine xj_' (f := 80) rfl ?_); refine goesL_ (some 13) rfl rfl Try.func80 (by kernel_rfl) rfl #[.int .i64 a0, .int .i64 (-1000000000000000), .int .i64 1000000000000000] rfl (by (try simp only [xm_', xc_', xn_']); first | done | rfl | (simp only [xd_', xt_']; rfl)) ?_; (with_reducible refine (spec_l1In.calls a0 (-1000000000000000) 1000000000000000 true _ A5.out).mono ?_); rintro e w' ⟨rfl, ⟨nd, rfl⟩⟩; refine ⟨_, rfl, ?_⟩) | (go_at_call 80; (with_reducible refine (spec_l1In.calls a1 (-1000000000000000) 1000000000000000 true _ A7.out).mono ?_); rintro e w' ⟨rfl, ⟨nd, rfl⟩⟩))
    go_meet
    case rel => exact ⟨_, ((a1 == 0)), (by first | rfl | (simp; done) | (simp [*]; done)), H', ⟨by first | omega | exact Nat.le_refl _⟩, ⟨by (with_reducible repeat (first | refine kn_' ?_ _ | refine kd_' ?_ | refine ka_' ?_ _)); exact BK953.out⟩, ⟨by repeat (first | (with_reducible first | exact HB.out | apply pa_' | apply pn_' | apply pd_' | refine pt_' ?_ GE953.out) | exact HB.out)⟩⟩
   replace c8 := Bool.eq_false_iff.mpr c8
   subst c8
   rw [if_neg (show ¬ (false = true) by decide)] at H
   have H' := sk_' H
   clear H
   go_wp2_with (first | ((with_reducible refine xj_' (f := 80) rfl ?_); refine goesL_ (some 13) rfl rfl Try.func80 (by kernel_rfl) rfl #[.int .i64 a0, .int .i64 (-1000000000000000), .int .i64 1000000000000000] rfl (by (try simp only [xm_', xc_', xn_']); first | done | rfl | (simp only [xd_', xt_']; rfl)) ?_; (with_reducible refine (spec_l1In.calls a0 (-1000000000000000) 1000000000000000 true _ A5.out).mono ?_); rintro e w' ⟨rfl, ⟨nd, rfl⟩⟩; refine ⟨_, rfl, ?_⟩) | (go_at_call 80; (with_reducible refine (spec_l1In.calls a1 (-1000000000000000) 1000000000000000 false _ A7.out).mono ?_); rintro e w' ⟨rfl, ⟨nd, rfl⟩⟩))
   go_meet
   case rel => exact ⟨_, (true), (by first | rfl | (simp; done) | (simp [*]; done)), H', ⟨by first | omega | exact Nat.le_refl _⟩, ⟨by (with_reducible repeat (first | refine kn_' ?_ _ | refine kd_' ?_ | refine ka_' ?_ _)); exact BK953.out⟩, ⟨by repeat (first | (with_reducible first | exact HB.out | apply pa_' | apply pn_' | apply pd_' | refine pt_' ?_ GE953.out) | exact HB.out)⟩⟩
  replace c6 := Bool.eq_false_iff.mpr c6
  subst c6
  rw [if_neg (show ¬ (false = true) by decide)] at H
  have H' := sk_' H
  clear H
  go_wp2_with (first | ((with_reducible refine xj_' (f := 80) rfl ?_); refine goesL_ (some 13) rfl rfl Try.func80 (by kernel_rfl) rfl #[.int .i64 a0, .int .i64 (-1000000000000000), .int .i64 1000000000000000] rfl (by (try simp only [xm_', xc_', xn_']); first | done | rfl | (simp only [xd_', xt_']; rfl)) ?_; (with_reducible refine (spec_l1In.calls a0 (-1000000000000000) 1000000000000000 false _ A5.out).mono ?_); rintro e w' ⟨rfl, ⟨nd, rfl⟩⟩; refine ⟨_, rfl, ?_⟩))
  go_meet
  case rel => exact ⟨_, (true), (by first | rfl | (simp; done) | (simp [*]; done)), H', ⟨by first | omega | exact Nat.le_refl _⟩, ⟨by (with_reducible repeat (first | refine kn_' ?_ _ | refine kd_' ?_ | refine ka_' ?_ _)); exact BK953.out⟩, ⟨by repeat (first | (with_reducible first | exact HB.out | apply pa_' | apply pn_' | apply pd_' | refine pt_' ?_ GE953.out) | exact HB.out)⟩⟩
 case rest =>
  clear HC3
  try clear c1
  try clear p2
  try clear c6
  try clear c8
  obtain ⟨kq, x26_2, rfl, HA, HJ2, BK953, HB⟩ := hcut
  cases kq with
  | zero => exact absurd HA.out (by simp [spec_MakeRatio.j0])
  | succ kj2 =>
   have H := HA.out
   clear HA
   simp only [spec_MakeRatio.j0] at H
   by_cases c9 : x26_2 = true
   ·
    subst c9
    rw [if_pos rfl] at H
    simp only [Option.some.injEq, Prod.mk.injEq] at H
    obtain ⟨rfl, rfl, rfl⟩ := H
    have hcz10_0 : wc.cell? ⟨gb953, 0, none⟩ = some (.int .i64 0) := (kc_' BK953.out 0).trans rfl
    have hcz10_1 : wc.cell? ⟨gb953, 1, none⟩ = some (.int .i64 0) := (kc_' BK953.out 1).trans rfl
    have hfz10_0 := kf_' BK953.out 0
    have hfz10_1 := kf_' BK953.out 1
    go_wp2
    refine bodyPost_ret (results_ct rfl _ _ gb953 134 #[.int .i64 0, .int .i64 0] (0, 0) _ rfl (by (with_reducible repeat (first | refine kn_' ?_ _ | refine kd_' ?_ | refine ka_' ?_ _)); refine blk_put (cs := #[.int .i64 0, .int .i64 0]) ?_ 1 _ rfl; (with_reducible repeat (first | refine kn_' ?_ _ | refine kd_' ?_ | refine ka_' ?_ _)); refine blk_put (cs := #[.int .i64 0, .int .i64 0]) ?_ 0 _ rfl; (with_reducible repeat (first | refine kn_' ?_ _ | refine kd_' ?_ | refine ka_' ?_ _)); exact BK953.out) Try.underlying134 rfl (by kernel_rfl)) rfl ?_
    exact ⟨by first | rfl | (simp [errW_none, errW_some] <;> rfl) | (simp [*, errW_none, errW_some] <;> rfl), by repeat (first | (with_reducible first | exact HB.out | apply pa_' | apply pn_' | apply pd_' | refine pt_' ?_ GE953.out) | exact HB.out)⟩
   replace c9 := Bool.eq_false_iff.mpr c9
   subst c9
   rw [if_neg (show ¬ (false = true) by decide)] at H
   have HC11 := sk_' H
   clear H
   go_upto_if 29 with (fail)
   go_cut [0, 1] (fun v0 v1 wc => ∃ (kq : Nat) (x0_10 : Int) (x1_10 : Int), v0 = .int .i64 x0_10 ∧ v1 = .int .i64 x1_10 ∧ Aside0 (spec_MakeRatio.j1 kq x0_10 x1_10 = some (r1, r2, r3)) ∧ Aside0 (kq ≤ kj2) ∧ Aside0 (wc.heap[gb953]? = some (.cells #[.int .i64 0, .int .i64 0] 134 (0, 0))) ∧ Aside0 (Below w.heap.size w wc))
   case first =>
    have H := HC11.out
    clear HC11
    by_cases c12 : a1 < 0
    ·
     rw [if_pos c12] at H
     have c12b0 : decide (a1 < 0) = true := decide_eq_true c12
     clear c12
     (first | rw [c12b0] | (simp only [i64_w, i32_w]; rw [c12b0]) | skip)
     have H' := sk_' H
     clear H
     go_wp2
     go_meet
     case rel => exact ⟨_, (wrap64 (-a0)), (wrap64 (-a1)), rfl, rfl, H', ⟨by have := HJ2.out; first | omega | exact Nat.le_refl _⟩, ⟨km BK953⟩, ⟨bm HB⟩⟩
    rw [if_neg c12] at H
    have c12b0 : decide (a1 < 0) = false := decide_eq_false c12
    clear c12
    (first | rw [c12b0] | (simp only [i64_w, i32_w]; rw [c12b0]) | skip)
    have H' := sk_' H
    clear H
    go_wp2
    go_meet
    case rel => exact ⟨_, (a0), (a1), rfl, rfl, H', ⟨by have := HJ2.out; first | omega | exact Nat.le_refl _⟩, ⟨km BK953⟩, ⟨bm HB⟩⟩
   case rest =>
    clear HC11
    try clear c1
    try clear p2
    try clear c6
    try clear p6
    try clear c8
    try clear c9
    try clear c12
    try clear c12b0
    try clear hcz10_0
    try clear hcz10_1
    try clear hfz10_0
    try clear hfz10_1
    try clear p2
    obtain ⟨kq, x0_10, x1_10, rfl, rfl, HA, HJ10, BK953, HB⟩ := hcut
    cases kq with
    | zero => exact absurd HA.out (by simp [spec_MakeRatio.j1])
    | succ kj10 =>
     have H := HA.out
     clear HA
     simp only [spec_MakeRatio.j1] at H
     replace H := bs_' H
     obtain ⟨t956, A130, H⟩ := H
     try dsimp only at H
     have A13 := sk_' A130
     clear A130
     replace H := bs_' H
     obtain ⟨t957, A140, H⟩ := H
     try dsimp only at H
     have A14 := sk_' A140
     clear A140
     by_cases c15 : t957 = 0
     ·
      rw [if_pos c15] at H
      exact absurd H (by simp)
     rw [if_neg c15] at H
     have c15b0 : (t957 == 0) = false := beq_eq_false_iff_ne.mpr c15
     have c15b1 : (t957 != 0) = true := bne_iff_ne.mpr c15
     replace H := bs_' H
     obtain ⟨t959, A160, H⟩ := H
     try dsimp only at H
     have A16 := sk_' A160
     clear A160
     by_cases c17 : t959 = true
     ·
      subst c17
      rw [if_pos rfl] at H
      simp only [Option.some.injEq, Prod.mk.injEq] at H
      obtain ⟨rfl, rfl, rfl⟩ := H
      try go_wp2_with (first | ((with_reducible refine xj_' (f := 177) rfl ?_); refine goesL_ (some 35) rfl rfl Try.func177 (by kernel_rfl) rfl #[.int .i64 x0_10] rfl (by (try simp only [xm_', xc_', xn_']); first | done | rfl | (simp only [xd_', xt_']; rfl)) ?_; (with_reducible refine (spec_l4Abs.calls x0_10 t956 _ A13.out).mono ?_); rintro e w' ⟨rfl, ⟨nd, rfl⟩⟩; refine ⟨_, rfl, ?_⟩; (try (rw [drewN_self wc]; generalize hq_ : World.drewN wc _ = wc; have n0_ : Aside0 (wc.heap[gb953]? = some (.cells #[.int .i64 0, .int .i64 0] 134 (0, 0))) := ⟨by rw [← hq_]; exact (by (with_reducible repeat (first | refine kn_' ?_ _ | refine kd_' ?_ | refine ka_' ?_ _)); exact BK953.out)⟩; have n1_ : Aside0 (Below w.heap.size w wc) := ⟨by rw [← hq_]; exact (by repeat (first | (with_reducible first | exact HB.out | apply pa_' | apply pn_' | apply pd_' | refine pt_' ?_ GE953.out) | exact HB.out))⟩; clear BK953 HB hq_; have BK953 := n0_; have HB := n1_; clear n0_ n1_))) | ((with_reducible refine xj_' (f := 176) rfl ?_); refine goesL_ (some 37) rfl rfl Try.func176 (by kernel_rfl) rfl #[.int .i64 t956, .int .i64 x1_10] rfl (by (try simp only [xm_', xc_', xn_']); first | done | rfl | (simp only [xd_', xt_']; rfl)) ?_; (with_reducible refine (spec_l4Gcd.calls kj10 t956 x1_10 t957 _ A14.out).mono ?_); rintro e w' ⟨rfl, ⟨nd, rfl⟩⟩; refine ⟨_, rfl, ?_⟩; (try (rw [drewN_self wc]; generalize hq_ : World.drewN wc _ = wc; have n0_ : Aside0 (wc.heap[gb953]? = some (.cells #[.int .i64 0, .int .i64 0] 134 (0, 0))) := ⟨by rw [← hq_]; exact (by (with_reducible repeat (first | refine kn_' ?_ _ | refine kd_' ?_ | refine ka_' ?_ _)); exact BK953.out)⟩; have n1_ : Aside0 (Below w.heap.size w wc) := ⟨by rw [← hq_]; exact (by repeat (first | (with_reducible first | exact HB.out | apply pa_' | apply pn_' | apply pd_' | refine pt_' ?_ GE953.out) | exact HB.out))⟩; clear BK953 HB hq_; have BK953 := n0_; have HB := n1_; clear n0_ n1_))))
      have n0_ := sk_' (kd_' BK953.out)
      have n1_ := sk_' (pd_' HB.out)
      clear BK953
      clear HB
      have BK953 := n0_
      have HB := n1_
      clear n0_ n1_
      refine start_ (n := 9) (S := fun w' => True) (ds := []) #[false, false, false, false, false, false, false, false, false] (by kernel_rfl) rfl rfl trivial (fun hHeld => ?_); refine with_tabW spec_MakeRatio.tab8 spec_MakeRatio.bits8 (fun HT_ HW_ => ?_)
      generalize wc.drew = w18 at BK953 HB hHeld ⊢
      refine pure_ (i := 0) (N := some 38) (v := ?_) (a' := ?_) #[true, false, false, false, false, false, false, false, false] rfl rfl (any_of HT_.out (by kernel_rfl)) (fun _ _ _ h => h) (Or.inl ⟨by rfl, ?_⟩) ?_ ?_
      rotate_left
      ·
       intro w'
       go_simp
       with_reducible rfl
      rotate_left
      ·
       simp only [Act.put, sa_', sz_', sc_', i64_w, i32_w]
       rfl
      refine pure_ (i := 1) (N := some 39) (v := ?_) (a' := ?_) #[true, true, false, false, false, false, false, false, false] rfl rfl (any_of HT_.out (by kernel_rfl)) (fun _ _ _ h => h) (Or.inl ⟨by rfl, ?_⟩) ?_ ?_
      rotate_left
      ·
       intro w'
       go_simp
       with_reducible rfl
      rotate_left
      ·
       simp only [Act.put, sa_', sz_', sc_', i64_w, i32_w]
       rfl
      refine pure_ (i := 2) (N := some 40) (v := ?_) (a' := ?_) #[true, true, true, false, false, false, false, false, false] rfl rfl (any_of HT_.out (by kernel_rfl)) (fun _ _ _ h => h) (Or.inl ⟨by rfl, ?_⟩) ?_ ?_
      rotate_left
      ·
       intro w'
       go_simp
       with_reducible rfl
      rotate_left
      ·
       simp only [Act.put, sa_', sz_', sc_', i64_w, i32_w]
       rfl
      refine pure_ (i := 3) (N := some 41) (v := ?_) (a' := ?_) #[true, true, true, true, false, false, false, false, false] rfl rfl (any_of HT_.out (by kernel_rfl)) (fun _ _ _ h => h) (Or.inl ⟨by rfl, ?_⟩) ?_ ?_
      rotate_left
      ·
       intro w'
       go_simp
       with_reducible rfl
      rotate_left
      ·
       simp only [Act.put, sa_', sz_', sc_', i64_w, i32_w]
       rfl
      refine pure_ (i := 4) (N := some 42) (v := ?_) (a' := ?_) #[true, true, true, true, true, false, false, false, false] rfl rfl (any_of HT_.out (by kernel_rfl)) (fun _ _ _ h => h) (Or.inl ⟨by rfl, ?_⟩) ?_ ?_
      rotate_left
      ·
       intro w'
       go_simp
       with_reducible rfl
      rotate_left
      ·
       simp only [Act.put, sa_', sz_', sc_', i64_w, i32_w]
       rfl
      refine pure_ (i := 5) (N := some 43) (v := ?_) (a' := ?_) #[true, true, true, true, true, true, false, false, false] rfl rfl (any_of HT_.out (by kernel_rfl)) (fun _ _ _ h => h) (Or.inl ⟨by rfl, ?_⟩) ?_ ?_
      rotate_left
      ·
       intro w'
       go_simp
       with_reducible rfl
      rotate_left
      ·
       simp only [Act.put, sa_', sz_', sc_', i64_w, i32_w]
       rfl
      refine pure_ (i := 6) (N := some 44) (v := ?_) (a' := ?_) #[true, true, true, true, true, true, true, false, false] rfl rfl (any_of HT_.out (by kernel_rfl)) (fun _ _ _ h => h) (Or.inl ⟨by rfl, ?_⟩) ?_ ?_
      rotate_left
      ·
       intro w'
       go_simp
       with_reducible rfl
      rotate_left
      ·
       simp only [Act.put, sa_', sz_', sc_', i64_w, i32_w]
       rfl
      refine one_ (i := 7) (N := some 8) #[true, true, true, true, true, true, true, true, false] rfl rfl (one_of HT_.out (by kernel_rfl)) (by decide) (fun K hK => ?_)
      refine box_step ?hg (N := 8) ?hd (cs := #[.int .i64 0, .int .i64 0]) (t := 134) ?hr ?_; (case hd => rfl); (case hg => rfl); (case hr => first | (go_simp; done) | (go_simp; rfl))
      intro gb958 hg w19 hbox hb
      have n0_ := sk_' (blk_below (g := gb953) (o := .cells #[.int .i64 0, .int .i64 0] 134 (0, 0)) (km BK953) hb)
      have n1_ := sk_' (pp_' (bm HB) hb)
      have n2_ := sk_' (hbox)
      have n3_ := sk_' ((by rw [hg]; exact (ps_' (bm HB)) : w.heap.size ≤ gb958))
      have n4_ := sk_' ((by rw [hg]; exact (ps_' (bm HB)) : w.heap.size ≤ gb958))
      have n5_ := sk_' ((by rw [hg]; exact Nat.ne_of_lt (blk_lt (g := gb953) (o := .cells #[.int .i64 0, .int .i64 0] 134 (0, 0)) (km BK953)) : gb953 ≠ gb958))
      have n6_ := sk_' ((by rw [hg]; exact Nat.ne_of_gt (blk_lt (g := gb953) (o := .cells #[.int .i64 0, .int .i64 0] 134 (0, 0)) (km BK953)) : gb958 ≠ gb953))
      clear BK953
      clear HB
      have BK953 := n0_
      have HB := n1_
      have BK958 := n2_
      have GW958 := n3_
      have GE958 := n4_
      have NB953_958 := n5_
      have NB958_953 := n6_
      clear n0_ n1_ n2_ n3_ n4_ n5_ n6_
      clear hb hbox hg
      refine hK.out _ _ trivial (fun hHeld => ?_)
      clear hK K
      refine norm_ (a' := ?_) ?_ ?_
      rotate_left
      ·
       show Act.put _ (some 8) _ = _
       simp only [Act.put, sa_', sz_', sc_', i64_w, i32_w]
       rfl
      refine one_ (i := 8) (N := none) #[true, true, true, true, true, true, true, true, true] rfl rfl (one_of HT_.out (by kernel_rfl)) (by decide) (fun K hK => ?_)
      have hs20 : w19.cell? ⟨gb958, 0, none⟩ = some (.int .i64 0) := (kc_' BK958.out 0).trans rfl
      have hfs20 := kf_' BK958.out 0
      have hns20_0 := NB953_958.out
      have hms20_0 := NB958_953.out
      have hs21 : w19.cell? ⟨gb958, 1, none⟩ = some (.int .i64 0) := (kc_' BK958.out 1).trans rfl
      have hfs21 := kf_' BK958.out 1
      have hns21_0 := NB953_958.out
      have hms21_0 := NB958_953.out
      refine skip_ (w1 := ?_) (by rfl) rfl ?_ ?_
      rotate_left
      ·
       go_simp
       rfl
      refine hK.out _ _ trivial (fun hHeld => ?_)
      clear hK K
      refine done_ (done_of HT_.out (by kernel_rfl)) ?_
      have hnb22 := NB958_953.out
      have hnc22 := NB953_958.out
      have hcz23_0 : w19.cell? ⟨gb958, 0, none⟩ = some (.int .i64 0) := (kc_' BK958.out 0).trans rfl
      have hcz23_1 : w19.cell? ⟨gb958, 1, none⟩ = some (.int .i64 0) := (kc_' BK958.out 1).trans rfl
      have hfz23_0 := kf_' BK958.out 0
      have hfz23_1 := kf_' BK958.out 1
      try go_wp2_with (first | ((with_reducible refine xj_' (f := 149) rfl ?_); refine goesL_ (some 46) rfl rfl Try.func149 (by kernel_rfl) rfl #[.agg #[.int .i64 (wrap64 (Int.tdiv x0_10 t957)), .int .i64 (wrap64 (Int.tdiv x1_10 t957))]] rfl (by (try simp only [xm_', xc_', xn_']); first | done | rfl | (simp only [xd_', xt_']; rfl)) ?_; (with_reducible refine (spec_IsRatio.calls kj10 (wrap64 (Int.tdiv x0_10 t957)) (wrap64 (Int.tdiv x1_10 t957)) true _ A16.out).mono ?_); rintro e w24 ⟨rfl, hb⟩; refine ⟨_, rfl, ?_⟩; have n0_ := sk_' (blk_below (g := gb953) (o := .cells #[.int .i64 0, .int .i64 0] 134 (0, 0)) (by (with_reducible repeat (first | refine kn_' ?_ _ | refine kd_' ?_ | refine ka_' ?_ _)); refine blk_far ?_ NB953_958.out _; (with_reducible repeat (first | refine kn_' ?_ _ | refine kd_' ?_ | refine ka_' ?_ _)); refine blk_far ?_ NB953_958.out _; (with_reducible repeat (first | refine kn_' ?_ _ | refine kd_' ?_ | refine ka_' ?_ _)); exact BK953.out) hb); have n1_ := sk_' (blk_below (g := gb958) (o := .cells #[.int .i64 (wrap64 (Int.tdiv x0_10 t957)), .int .i64 (wrap64 (Int.tdiv x1_10 t957))] 134 (0, 0)) (by (with_reducible repeat (first | refine kn_' ?_ _ | refine kd_' ?_ | refine ka_' ?_ _)); refine blk_put (cs := #[.int .i64 (wrap64 (Int.tdiv x0_10 t957)), .int .i64 0]) ?_ 1 _ rfl; (with_reducible repeat (first | refine kn_' ?_ _ | refine kd_' ?_ | refine ka_' ?_ _)); refine blk_put (cs := #[.int .i64 0, .int .i64 0]) ?_ 0 _ rfl; (with_reducible repeat (first | refine kn_' ?_ _ | refine kd_' ?_ | refine ka_' ?_ _)); exact BK958.out) hb); have n2_ := sk_' (pp_' (by repeat (first | (with_reducible first | exact HB.out | apply pa_' | apply pn_' | apply pd_' | refine pt_' ?_ GE953.out | refine pt_' ?_ GE958.out) | exact HB.out)) hb); clear BK953; clear BK958; clear HB; have BK953 := n0_; have BK958 := n1_; have HB := n2_; clear n0_ n1_ n2_; (try clear hb); (try clear hb2); (try clear hk); (try clear hi); have hcz25_0 : w24.cell? ⟨gb958, 0, none⟩ = some (.int .i64 (wrap64 (Int.tdiv x0_10 t957))) := (kc_' BK958.out 0).trans rfl; have hcz25_1 : w24.cell? ⟨gb958, 1, none⟩ = some (.int .i64 (wrap64 (Int.tdiv x1_10 t957))) := (kc_' BK958.out 1).trans rfl; have hfz25_0 := kf_' BK958.out 0; have hfz25_1 := kf_' BK958.out 1; have hcz26_0 : w24.cell? ⟨gb953, 0, none⟩ = some (.int .i64 0) := (kc_' BK953.out 0).trans rfl; have hcz26_1 : w24.cell? ⟨gb953, 1, none⟩ = some (.int .i64 0) := (kc_' BK953.out 1).trans rfl; have hfz26_0 := kf_' BK953.out 0; have hfz26_1 := kf_' BK953.out 1))
      refine bodyPost_ret (results_ct rfl _ _ gb953 134 #[.int .i64 (wrap64 (Int.tdiv x0_10 t957)), .int .i64 (wrap64 (Int.tdiv x1_10 t957))] (0, 0) _ rfl (by (with_reducible repeat (first | refine kn_' ?_ _ | refine kd_' ?_ | refine ka_' ?_ _)); refine blk_put (cs := #[.int .i64 (wrap64 (Int.tdiv x0_10 t957)), .int .i64 0]) ?_ 1 _ rfl; (with_reducible repeat (first | refine kn_' ?_ _ | refine kd_' ?_ | refine ka_' ?_ _)); refine blk_put (cs := #[.int .i64 0, .int .i64 0]) ?_ 0 _ rfl; (with_reducible repeat (first | refine kn_' ?_ _ | refine kd_' ?_ | refine ka_' ?_ _)); exact BK953.out) Try.underlying134 rfl (by kernel_rfl)) rfl ?_
      exact ⟨by first | rfl | (simp [errW_none, errW_some] <;> rfl) | (simp [*, errW_none, errW_some] <;> rfl), by repeat (first | (with_reducible first | exact HB.out | apply pa_' | apply pn_' | apply pd_' | refine pt_' ?_ GE953.out | refine pt_' ?_ GE958.out) | exact HB.out)⟩
     replace c17 := Bool.eq_false_iff.mpr c17
     subst c17
     rw [if_neg (show ¬ (false = true) by decide)] at H
     simp only [Option.some.injEq, Prod.mk.injEq] at H
     obtain ⟨rfl, rfl, rfl⟩ := H
     try go_wp2_with (first | ((with_reducible refine xj_' (f := 177) rfl ?_); refine goesL_ (some 35) rfl rfl Try.func177 (by kernel_rfl) rfl #[.int .i64 x0_10] rfl (by (try simp only [xm_', xc_', xn_']); first | done | rfl | (simp only [xd_', xt_']; rfl)) ?_; (with_reducible refine (spec_l4Abs.calls x0_10 t956 _ A13.out).mono ?_); rintro e w' ⟨rfl, ⟨nd, rfl⟩⟩; refine ⟨_, rfl, ?_⟩; (try (rw [drewN_self wc]; generalize hq_ : World.drewN wc _ = wc; have n0_ : Aside0 (wc.heap[gb953]? = some (.cells #[.int .i64 0, .int .i64 0] 134 (0, 0))) := ⟨by rw [← hq_]; exact (by (with_reducible repeat (first | refine kn_' ?_ _ | refine kd_' ?_ | refine ka_' ?_ _)); exact BK953.out)⟩; have n1_ : Aside0 (Below w.heap.size w wc) := ⟨by rw [← hq_]; exact (by repeat (first | (with_reducible first | exact HB.out | apply pa_' | apply pn_' | apply pd_' | refine pt_' ?_ GE953.out) | exact HB.out))⟩; clear BK953 HB hq_; have BK953 := n0_; have HB := n1_; clear n0_ n1_))) | ((with_reducible refine xj_' (f := 176) rfl ?_); refine goesL_ (some 37) rfl rfl Try.func176 (by kernel_rfl) rfl #[.int .i64 t956, .int .i64 x1_10] rfl (by (try simp only [xm_', xc_', xn_']); first | done | rfl | (simp only [xd_', xt_']; rfl)) ?_; (with_reducible refine (spec_l4Gcd.calls kj10 t956 x1_10 t957 _ A14.out).mono ?_); rintro e w' ⟨rfl, ⟨nd, rfl⟩⟩; refine ⟨_, rfl, ?_⟩; (try (rw [drewN_self wc]; generalize hq_ : World.drewN wc _ = wc; have n0_ : Aside0 (wc.heap[gb953]? = some (.cells #[.int .i64 0, .int .i64 0] 134 (0, 0))) := ⟨by rw [← hq_]; exact (by (with_reducible repeat (first | refine kn_' ?_ _ | refine kd_' ?_ | refine ka_' ?_ _)); exact BK953.out)⟩; have n1_ : Aside0 (Below w.heap.size w wc) := ⟨by rw [← hq_]; exact (by repeat (first | (with_reducible first | exact HB.out | apply pa_' | apply pn_' | apply pd_' | refine pt_' ?_ GE953.out) | exact HB.out))⟩; clear BK953 HB hq_; have BK953 := n0_; have HB := n1_; clear n0_ n1_))))
     have n0_ := sk_' (kd_' BK953.out)
     have n1_ := sk_' (pd_' HB.out)
     clear BK953
     clear HB
     have BK953 := n0_
     have HB := n1_
     clear n0_ n1_
     refine start_ (n := 9) (S := fun w' => True) (ds := []) #[false, false, false, false, false, false, false, false, false] (by kernel_rfl) rfl rfl trivial (fun hHeld => ?_); refine with_tabW spec_MakeRatio.tab8 spec_MakeRatio.bits8 (fun HT_ HW_ => ?_)
     generalize wc.drew = w27 at BK953 HB hHeld ⊢
     refine pure_ (i := 0) (N := some 38) (v := ?_) (a' := ?_) #[true, false, false, false, false, false, false, false, false] rfl rfl (any_of HT_.out (by kernel_rfl)) (fun _ _ _ h => h) (Or.inl ⟨by rfl, ?_⟩) ?_ ?_
     rotate_left
     ·
      intro w'
      go_simp
      with_reducible rfl
     rotate_left
     ·
      simp only [Act.put, sa_', sz_', sc_', i64_w, i32_w]
      rfl
     refine pure_ (i := 1) (N := some 39) (v := ?_) (a' := ?_) #[true, true, false, false, false, false, false, false, false] rfl rfl (any_of HT_.out (by kernel_rfl)) (fun _ _ _ h => h) (Or.inl ⟨by rfl, ?_⟩) ?_ ?_
     rotate_left
     ·
      intro w'
      go_simp
      with_reducible rfl
     rotate_left
     ·
      simp only [Act.put, sa_', sz_', sc_', i64_w, i32_w]
      rfl
     refine pure_ (i := 2) (N := some 40) (v := ?_) (a' := ?_) #[true, true, true, false, false, false, false, false, false] rfl rfl (any_of HT_.out (by kernel_rfl)) (fun _ _ _ h => h) (Or.inl ⟨by rfl, ?_⟩) ?_ ?_
     rotate_left
     ·
      intro w'
      go_simp
      with_reducible rfl
     rotate_left
     ·
      simp only [Act.put, sa_', sz_', sc_', i64_w, i32_w]
      rfl
     refine pure_ (i := 3) (N := some 41) (v := ?_) (a' := ?_) #[true, true, true, true, false, false, false, false, false] rfl rfl (any_of HT_.out (by kernel_rfl)) (fun _ _ _ h => h) (Or.inl ⟨by rfl, ?_⟩) ?_ ?_
     rotate_left
     ·
      intro w'
      go_simp
      with_reducible rfl
     rotate_left
     ·
      simp only [Act.put, sa_', sz_', sc_', i64_w, i32_w]
      rfl
     refine pure_ (i := 4) (N := some 42) (v := ?_) (a' := ?_) #[true, true, true, true, true, false, false, false, false] rfl rfl (any_of HT_.out (by kernel_rfl)) (fun _ _ _ h => h) (Or.inl ⟨by rfl, ?_⟩) ?_ ?_
     rotate_left
     ·
      intro w'
      go_simp
      with_reducible rfl
     rotate_left
     ·
      simp only [Act.put, sa_', sz_', sc_', i64_w, i32_w]
      rfl
     refine pure_ (i := 5) (N := some 43) (v := ?_) (a' := ?_) #[true, true, true, true, true, true, false, false, false] rfl rfl (any_of HT_.out (by kernel_rfl)) (fun _ _ _ h => h) (Or.inl ⟨by rfl, ?_⟩) ?_ ?_
     rotate_left
     ·
      intro w'
      go_simp
      with_reducible rfl
     rotate_left
     ·
      simp only [Act.put, sa_', sz_', sc_', i64_w, i32_w]
      rfl
     refine pure_ (i := 6) (N := some 44) (v := ?_) (a' := ?_) #[true, true, true, true, true, true, true, false, false] rfl rfl (any_of HT_.out (by kernel_rfl)) (fun _ _ _ h => h) (Or.inl ⟨by rfl, ?_⟩) ?_ ?_
     rotate_left
     ·
      intro w'
      go_simp
      with_reducible rfl
     rotate_left
     ·
      simp only [Act.put, sa_', sz_', sc_', i64_w, i32_w]
      rfl
     refine one_ (i := 7) (N := some 8) #[true, true, true, true, true, true, true, true, false] rfl rfl (one_of HT_.out (by kernel_rfl)) (by decide) (fun K hK => ?_)
     refine box_step ?hg (N := 8) ?hd (cs := #[.int .i64 0, .int .i64 0]) (t := 134) ?hr ?_; (case hd => rfl); (case hg => rfl); (case hr => first | (go_simp; done) | (go_simp; rfl))
     intro gb958 hg w28 hbox hb
     have n0_ := sk_' (blk_below (g := gb953) (o := .cells #[.int .i64 0, .int .i64 0] 134 (0, 0)) (km BK953) hb)
     have n1_ := sk_' (pp_' (bm HB) hb)
     have n2_ := sk_' (hbox)
     have n3_ := sk_' ((by rw [hg]; exact (ps_' (bm HB)) : w.heap.size ≤ gb958))
     have n4_ := sk_' ((by rw [hg]; exact (ps_' (bm HB)) : w.heap.size ≤ gb958))
     have n5_ := sk_' ((by rw [hg]; exact Nat.ne_of_lt (blk_lt (g := gb953) (o := .cells #[.int .i64 0, .int .i64 0] 134 (0, 0)) (km BK953)) : gb953 ≠ gb958))
     have n6_ := sk_' ((by rw [hg]; exact Nat.ne_of_gt (blk_lt (g := gb953) (o := .cells #[.int .i64 0, .int .i64 0] 134 (0, 0)) (km BK953)) : gb958 ≠ gb953))
     clear BK953
     clear HB
     have BK953 := n0_
     have HB := n1_
     have BK958 := n2_
     have GW958 := n3_
     have GE958 := n4_
     have NB953_958 := n5_
     have NB958_953 := n6_
     clear n0_ n1_ n2_ n3_ n4_ n5_ n6_
     clear hb hbox hg
     refine hK.out _ _ trivial (fun hHeld => ?_)
     clear hK K
     refine norm_ (a' := ?_) ?_ ?_
     rotate_left
     ·
      show Act.put _ (some 8) _ = _
      simp only [Act.put, sa_', sz_', sc_', i64_w, i32_w]
      rfl
     refine one_ (i := 8) (N := none) #[true, true, true, true, true, true, true, true, true] rfl rfl (one_of HT_.out (by kernel_rfl)) (by decide) (fun K hK => ?_)
     have hs29 : w28.cell? ⟨gb958, 0, none⟩ = some (.int .i64 0) := (kc_' BK958.out 0).trans rfl
     have hfs29 := kf_' BK958.out 0
     have hns29_0 := NB953_958.out
     have hms29_0 := NB958_953.out
     have hs30 : w28.cell? ⟨gb958, 1, none⟩ = some (.int .i64 0) := (kc_' BK958.out 1).trans rfl
     have hfs30 := kf_' BK958.out 1
     have hns30_0 := NB953_958.out
     have hms30_0 := NB958_953.out
     refine skip_ (w1 := ?_) (by rfl) rfl ?_ ?_
     rotate_left
     ·
      go_simp
      rfl
     refine hK.out _ _ trivial (fun hHeld => ?_)
     clear hK K
     refine done_ (done_of HT_.out (by kernel_rfl)) ?_
     have hnb31 := NB958_953.out
     have hnc31 := NB953_958.out
     have hcz32_0 : w28.cell? ⟨gb958, 0, none⟩ = some (.int .i64 0) := (kc_' BK958.out 0).trans rfl
     have hcz32_1 : w28.cell? ⟨gb958, 1, none⟩ = some (.int .i64 0) := (kc_' BK958.out 1).trans rfl
     have hfz32_0 := kf_' BK958.out 0
     have hfz32_1 := kf_' BK958.out 1
     try go_wp2_with (first | ((with_reducible refine xj_' (f := 149) rfl ?_); refine goesL_ (some 46) rfl rfl Try.func149 (by kernel_rfl) rfl #[.agg #[.int .i64 (wrap64 (Int.tdiv x0_10 t957)), .int .i64 (wrap64 (Int.tdiv x1_10 t957))]] rfl (by (try simp only [xm_', xc_', xn_']); first | done | rfl | (simp only [xd_', xt_']; rfl)) ?_; (with_reducible refine (spec_IsRatio.calls kj10 (wrap64 (Int.tdiv x0_10 t957)) (wrap64 (Int.tdiv x1_10 t957)) false _ A16.out).mono ?_); rintro e w33 ⟨rfl, hb⟩; refine ⟨_, rfl, ?_⟩; have n0_ := sk_' (blk_below (g := gb953) (o := .cells #[.int .i64 0, .int .i64 0] 134 (0, 0)) (by (with_reducible repeat (first | refine kn_' ?_ _ | refine kd_' ?_ | refine ka_' ?_ _)); refine blk_far ?_ NB953_958.out _; (with_reducible repeat (first | refine kn_' ?_ _ | refine kd_' ?_ | refine ka_' ?_ _)); refine blk_far ?_ NB953_958.out _; (with_reducible repeat (first | refine kn_' ?_ _ | refine kd_' ?_ | refine ka_' ?_ _)); exact BK953.out) hb); have n1_ := sk_' (blk_below (g := gb958) (o := .cells #[.int .i64 (wrap64 (Int.tdiv x0_10 t957)), .int .i64 (wrap64 (Int.tdiv x1_10 t957))] 134 (0, 0)) (by (with_reducible repeat (first | refine kn_' ?_ _ | refine kd_' ?_ | refine ka_' ?_ _)); refine blk_put (cs := #[.int .i64 (wrap64 (Int.tdiv x0_10 t957)), .int .i64 0]) ?_ 1 _ rfl; (with_reducible repeat (first | refine kn_' ?_ _ | refine kd_' ?_ | refine ka_' ?_ _)); refine blk_put (cs := #[.int .i64 0, .int .i64 0]) ?_ 0 _ rfl; (with_reducible repeat (first | refine kn_' ?_ _ | refine kd_' ?_ | refine ka_' ?_ _)); exact BK958.out) hb); have n2_ := sk_' (pp_' (by repeat (first | (with_reducible first | exact HB.out | apply pa_' | apply pn_' | apply pd_' | refine pt_' ?_ GE953.out | refine pt_' ?_ GE958.out) | exact HB.out)) hb); clear BK953; clear BK958; clear HB; have BK953 := n0_; have BK958 := n1_; have HB := n2_; clear n0_ n1_ n2_; (try clear hb); (try clear hb2); (try clear hk); (try clear hi); have hcz34_0 : w33.cell? ⟨gb953, 0, none⟩ = some (.int .i64 0) := (kc_' BK953.out 0).trans rfl; have hcz34_1 : w33.cell? ⟨gb953, 1, none⟩ = some (.int .i64 0) := (kc_' BK953.out 1).trans rfl; have hfz34_0 := kf_' BK953.out 0; have hfz34_1 := kf_' BK953.out 1))
     refine bodyPost_ret (results_ct rfl _ _ gb953 134 #[.int .i64 0, .int .i64 0] (0, 0) _ rfl (by (with_reducible repeat (first | refine kn_' ?_ _ | refine kd_' ?_ | refine ka_' ?_ _)); refine blk_put (cs := #[.int .i64 0, .int .i64 0]) ?_ 1 _ rfl; (with_reducible repeat (first | refine kn_' ?_ _ | refine kd_' ?_ | refine ka_' ?_ _)); refine blk_put (cs := #[.int .i64 0, .int .i64 0]) ?_ 0 _ rfl; (with_reducible repeat (first | refine kn_' ?_ _ | refine kd_' ?_ | refine ka_' ?_ _)); exact BK953.out) Try.underlying134 rfl (by kernel_rfl)) rfl ?_
     exact ⟨by first | rfl | (simp [errW_none, errW_some] <;> rfl) | (simp [*, errW_none, errW_some] <;> rfl), by repeat (first | (with_reducible first | exact HB.out | apply pa_' | apply pn_' | apply pd_' | refine pt_' ?_ GE953.out | refine pt_' ?_ GE958.out) | exact HB.out)⟩
end Go.Proofs.Ytiophiipmgpaeaa.F

namespace Go.Proofs.Ytiophiipmgpaeaa.F
open Go.RowKit Go.Proofs.YtiophiipmgpaeaaW.PrintWords Go.Proofs.YtiophiipmgpaeaaW.PrintLast Go.Proofs.YtiophiipmgpaeaaW.PrintMore
attribute [local go_sem] max2_int min2_int max_two min_two max_three min_three max_four min_four
set_option linter.unusedVariables false
set_option linter.unusedSimpArgs false
def spec_AddRatio.j0 : Nat → Bool → Int → Int → Int → Int → Option (Int × Int × Bool)
 | 0, _, _, _, _, _ => none
 | k + 1, x18, x961000, x961001, x962000, x962001 => if x18 = true then (some (0, 0, false)) else ((spec_l4Gcd.f k x961001 x962001).bind fun t965 => (if t965 = 0 then (none) else ((spec_l4Abs.f (wrap64 ((wrap64 (x961000 * (wrap64 (Int.tdiv x962001 t965)))) + (wrap64 (x962000 * (wrap64 (Int.tdiv x961001 t965))))))).bind fun t966 => ((spec_l4Gcd.f k t966 (wrap64 ((wrap64 (Int.tdiv x961001 t965)) * x962001))).bind fun t967 => (if t967 = 0 then (none) else ((spec_IsRatio.f k (wrap64 (Int.tdiv (wrap64 ((wrap64 (x961000 * (wrap64 (Int.tdiv x962001 t965)))) + (wrap64 (x962000 * (wrap64 (Int.tdiv x961001 t965)))))) t967)) (wrap64 (Int.tdiv (wrap64 ((wrap64 (Int.tdiv x961001 t965)) * x962001)) t967))).bind fun t969 => (if t969 = true then (some (wrap64 (Int.tdiv (wrap64 ((wrap64 (x961000 * (wrap64 (Int.tdiv x962001 t965)))) + (wrap64 (x962000 * (wrap64 (Int.tdiv x961001 t965)))))) t967), wrap64 (Int.tdiv (wrap64 ((wrap64 (Int.tdiv x961001 t965)) * x962001)) t967), true)) else (some (0, 0, false)))))))))
def spec_AddRatio.f (k : Nat) (a0_0 : Int) (a0_1 : Int) (a1_0 : Int) (a1_1 : Int) : Option (Int × Int × Bool) := (spec_IsRatio.f k a0_0 a0_1).bind fun t963 => (if t963 = true then ((spec_IsRatio.f k a1_0 a1_1).bind fun t964 => (spec_AddRatio.j0 k (!t964) a0_0 a0_1 a1_0 a1_1)) else (spec_AddRatio.j0 k true a0_0 a0_1 a1_0 a1_1))
def spec_AddRatio.T4 : Bool × List (List Nat × List Nat) := (true, [([], []), ([0], [0]), ([], []), ([2], [2]), ([], []), ([3, 4], [3, 4]), ([1, 5], [1, 5]), ([], []), ([7], [7]), ([], []), ([9], [9]), ([], []), ([10, 11], [10, 11]), ([8, 12], [8, 12]), ([6, 13], [6, 13]), ([14, 0, 1, 2, 3, 4, 5, 6, 7, 8, 9, 10, 11, 12, 13, 14], [14])])
def spec_AddRatio.B4 : List Nat := [0, 1, 0, 4, 0, 28, 63, 0, 128, 0, 512, 0, 3584, 8064, 16383, 32767]
theorem spec_AddRatio.tab4 : rtab .any (opsOf Try.f148 4) = spec_AddRatio.T4 := by kernel_rfl
theorem spec_AddRatio.bits4 : waitsOk spec_AddRatio.T4.2 spec_AddRatio.B4 = true := by kernel_rfl
def spec_AddRatio.T5 : Bool × List (List Nat × List Nat) := (true, [([], []), ([0], [0]), ([], []), ([1, 2], [1, 2]), ([], []), ([4], [4]), ([3, 5], [3, 5]), ([6, 0, 1, 2, 3, 4, 5, 6], [6])])
def spec_AddRatio.B5 : List Nat := [0, 1, 0, 7, 0, 16, 63, 127]
theorem spec_AddRatio.tab5 : rtab .any (opsOf Try.f148 5) = spec_AddRatio.T5 := by kernel_rfl
theorem spec_AddRatio.bits5 : waitsOk spec_AddRatio.T5.2 spec_AddRatio.B5 = true := by kernel_rfl
def spec_AddRatio.T7 : Bool × List (List Nat × List Nat) := (true, [([], []), ([], []), ([0, 1], [0, 1]), ([], []), ([], []), ([3, 4], [3, 4]), ([2, 5], [2, 5]), ([], []), ([7, 6, 0, 1, 2, 3, 4, 5, 6, 7], [6, 7])])
def spec_AddRatio.B7 : List Nat := [0, 0, 3, 0, 0, 24, 63, 0, 255]
theorem spec_AddRatio.tab7 : rtab .any (opsOf Try.f148 7) = spec_AddRatio.T7 := by kernel_rfl
theorem spec_AddRatio.bits7 : waitsOk spec_AddRatio.T7.2 spec_AddRatio.B7 = true := by kernel_rfl
set_option maxHeartbeats 8000000 in
set_option maxRecDepth 100000 in
theorem spec_AddRatio.calls (k : Nat) (a0_0 : Int) (a0_1 : Int) (a1_0 : Int) (a1_1 : Int) (r1 : Int) (r2 : Int) (r3 : Bool) (w : World) (h : spec_AddRatio.f k a0_0 a0_1 a1_0 a1_1 = some (r1, r2, r3)) :
  Calls Try.prog 148 #[.agg #[.int .i64 a0_0, .int .i64 a0_1], .agg #[.int .i64 a1_0, .int .i64 a1_1]] w fun e w' => e = .returned (.tuple #[.agg #[.int .i64 r1, .int .i64 r2], .bool r3]) ∧ Below w.heap.size w w' := by
 have hu134 := Try.underlying134
 have HB := sk_' (Below.refl w.heap.size w)
 have H : ((spec_IsRatio.f k a0_0 a0_1).bind fun t963 => (if t963 = true then ((spec_IsRatio.f k a1_0 a1_1).bind fun t964 => (spec_AddRatio.j0 k (!t964) a0_0 a0_1 a1_0 a1_1)) else (spec_AddRatio.j0 k true a0_0 a0_1 a1_0 a1_1))) = some (r1, r2, r3) := h
 clear h
 have HC3 := sk_' H
 clear H
 go_enter Try.func148, Try.ntmps148
 go_upto_region 1 with (first | ((with_reducible refine gate_dst (N := 2) rfl ?_); refine box_event ?hg (N := 2) ?hd (cs := #[.int .i64 a0_0, .int .i64 a0_1]) (t := 134) ?hr ?_; (case hd => rfl); (case hg => rfl); (case hr => first | (go_simp; done) | (go_simp; rfl)); intro gb960 hg w4 hbox hb; have n0_ := sk_' (pp_' (bm HB) hb); have n1_ := sk_' (hbox); have n2_ := sk_' ((by rw [hg]; exact (ps_' (bm HB)) : w.heap.size ≤ gb960)); have n3_ := sk_' ((by rw [hg]; exact (ps_' (bm HB)) : w.heap.size ≤ gb960)); clear HB; have HB := n0_; have BK960 := n1_; have GW960 := n2_; have GE960 := n3_; clear n0_ n1_ n2_ n3_; clear hb hbox hg) | ((with_reducible refine gate_dst (N := 3) rfl ?_); refine box_event ?hg (N := 3) ?hd (cs := #[.int .i64 a1_0, .int .i64 a1_1]) (t := 134) ?hr ?_; (case hd => rfl); (case hg => rfl); (case hr => first | (go_simp; done) | (go_simp; rfl)); intro gb961 hg w5 hbox hb; have n0_ := sk_' (blk_below (g := gb960) (o := .cells #[.int .i64 a0_0, .int .i64 a0_1] 134 (0, 0)) (km BK960) hb); have n1_ := sk_' (pp_' (bm HB) hb); have n2_ := sk_' (hbox); have n3_ := sk_' ((by rw [hg]; exact (ps_' (bm HB)) : w.heap.size ≤ gb961)); have n4_ := sk_' ((by rw [hg]; exact (ps_' (bm HB)) : w.heap.size ≤ gb961)); have n5_ := sk_' ((by rw [hg]; exact Nat.ne_of_lt (blk_lt (g := gb960) (o := .cells #[.int .i64 a0_0, .int .i64 a0_1] 134 (0, 0)) (km BK960)) : gb960 ≠ gb961)); have n6_ := sk_' ((by rw [hg]; exact Nat.ne_of_gt (blk_lt (g := gb960) (o := .cells #[.int .i64 a0_0, .int .i64 a0_1] 134 (0, 0)) (km BK960)) : gb961 ≠ gb960)); clear BK960; clear HB; have BK960 := n0_; have HB := n1_; have BK961 := n2_; have GW961 := n3_; have GE961 := n4_; have NB960_961 := n5_; have NB961_960 := n6_; clear n0_ n1_ n2_ n3_ n4_ n5_ n6_; clear hb hbox hg) | ((with_reducible refine gate_dst (N := 4) rfl ?_); refine box_event ?hg (N := 4) ?hd (cs := #[.int .i64 0, .int .i64 0]) (t := 134) ?hr ?_; (case hd => rfl); (case hg => rfl); (case hr => first | (go_simp; done) | (go_simp; rfl)); intro gb962 hg w6 hbox hb; have n0_ := sk_' (blk_below (g := gb960) (o := .cells #[.int .i64 a0_0, .int .i64 a0_1] 134 (0, 0)) (km BK960) hb); have n1_ := sk_' (blk_below (g := gb961) (o := .cells #[.int .i64 a1_0, .int .i64 a1_1] 134 (0, 0)) (km BK961) hb); have n2_ := sk_' (pp_' (bm HB) hb); have n3_ := sk_' (hbox); have n4_ := sk_' ((by rw [hg]; exact (ps_' (bm HB)) : w.heap.size ≤ gb962)); have n5_ := sk_' ((by rw [hg]; exact (ps_' (bm HB)) : w.heap.size ≤ gb962)); have n6_ := sk_' ((by rw [hg]; exact Nat.ne_of_lt (blk_lt (g := gb960) (o := .cells #[.int .i64 a0_0, .int .i64 a0_1] 134 (0, 0)) (km BK960)) : gb960 ≠ gb962)); have n7_ := sk_' ((by rw [hg]; exact Nat.ne_of_gt (blk_lt (g := gb960) (o := .cells #[.int .i64 a0_0, .int .i64 a0_1] 134 (0, 0)) (km BK960)) : gb962 ≠ gb960)); have n8_ := sk_' ((by rw [hg]; exact Nat.ne_of_lt (blk_lt (g := gb961) (o := .cells #[.int .i64 a1_0, .int .i64 a1_1] 134 (0, 0)) (km BK961)) : gb961 ≠ gb962)); have n9_ := sk_' ((by rw [hg]; exact Nat.ne_of_gt (blk_lt (g := gb961) (o := .cells #[.int .i64 a1_0, .int .i64 a1_1] 134 (0, 0)) (km BK961)) : gb962 ≠ gb961)); clear BK960; clear BK961; clear HB; have BK960 := n0_; have BK961 := n1_; have HB := n2_; have BK962 := n3_; have GW962 := n4_; have GE962 := n5_; have NB960_962 := n6_; have NB962_960 := n7_; have NB961_962 := n8_; have NB962_961 := n9_; clear n0_ n1_ n2_ n3_ n4_ n5_ n6_ n7_ n8_ n9_; clear hb hbox hg))
 (try simp only [Act.put, sa_', sz_', sc_'])
 go_cut [18] (fun v18 wc => ∃ (kq : Nat) (x18_2 : Bool), v18 = .bool x18_2 ∧ Aside0 (spec_AddRatio.j0 kq x18_2 a0_0 a0_1 a1_0 a1_1 = some (r1, r2, r3)) ∧ Aside0 (kq ≤ k) ∧ Aside0 (wc.heap[gb960]? = some (.cells #[.int .i64 a0_0, .int .i64 a0_1] 134 (0, 0))) ∧ Aside0 (wc.heap[gb961]? = some (.cells #[.int .i64 a1_0, .int .i64 a1_1] 134 (0, 0))) ∧ Aside0 (wc.heap[gb962]? = some (.cells #[.int .i64 0, .int .i64 0] 134 (0, 0))) ∧ Aside0 (Below w.heap.size w wc))
 case first =>
  have H := HC3.out
  clear HC3
  replace H := bs_' H
  obtain ⟨t963, A70, H⟩ := H
  try dsimp only at H
  have A7 := sk_' A70
  clear A70
  by_cases c8 : t963 = true
  ·
   subst c8
   rw [if_pos rfl] at H
   replace H := bs_' H
   obtain ⟨t964, A90, H⟩ := H
   try dsimp only at H
   have A9 := sk_' A90
   clear A90
   have H' := sk_' H
   clear H
   have hnb10 := NB960_961.out
   have hnc10 := NB961_960.out
   have hnb11 := NB960_962.out
   have hnc11 := NB962_960.out
   have hcz12_0 : w6.cell? ⟨gb960, 0, none⟩ = some (.int .i64 a0_0) := (kc_' BK960.out 0).trans rfl
   have hcz12_1 : w6.cell? ⟨gb960, 1, none⟩ = some (.int .i64 a0_1) := (kc_' BK960.out 1).trans rfl
   have hfz12_0 := kf_' BK960.out 0
   have hfz12_1 := kf_' BK960.out 1
   go_wp2_with (first | ((with_reducible refine xj_' (f := 149) rfl ?_); refine goesL_ (some 12) rfl rfl Try.func149 (by kernel_rfl) rfl #[.agg #[.int .i64 a0_0, .int .i64 a0_1]] rfl (by (try simp only [xm_', xc_', xn_']); first | done | rfl | (simp only [xd_', xt_']; rfl)) ?_; (with_reducible refine (spec_IsRatio.calls k a0_0 a0_1 true _ A7.out).mono ?_); rintro e w13 ⟨rfl, hb⟩; refine ⟨_, rfl, ?_⟩; have n0_ := sk_' (blk_below (g := gb960) (o := .cells #[.int .i64 a0_0, .int .i64 a0_1] 134 (0, 0)) (by (with_reducible repeat (first | refine kn_' ?_ _ | refine kd_' ?_ | refine ka_' ?_ _)); exact BK960.out) hb); have n1_ := sk_' (blk_below (g := gb961) (o := .cells #[.int .i64 a1_0, .int .i64 a1_1] 134 (0, 0)) (by (with_reducible repeat (first | refine kn_' ?_ _ | refine kd_' ?_ | refine ka_' ?_ _)); exact BK961.out) hb); have n2_ := sk_' (blk_below (g := gb962) (o := .cells #[.int .i64 0, .int .i64 0] 134 (0, 0)) (by (with_reducible repeat (first | refine kn_' ?_ _ | refine kd_' ?_ | refine ka_' ?_ _)); exact BK962.out) hb); have n3_ := sk_' (pp_' (by repeat (first | (with_reducible first | exact HB.out | apply pa_' | apply pn_' | apply pd_' | refine pt_' ?_ GE960.out | refine pt_' ?_ GE961.out | refine pt_' ?_ GE962.out) | exact HB.out)) hb); clear BK960; clear BK961; clear BK962; clear HB; have BK960 := n0_; have BK961 := n1_; have BK962 := n2_; have HB := n3_; clear n0_ n1_ n2_ n3_; (try clear hb); (try clear hb2); (try clear hk); (try clear hi); have hnb14 := NB961_962.out; have hnc14 := NB962_961.out; have hcz15_0 : w13.cell? ⟨gb961, 0, none⟩ = some (.int .i64 a1_0) := (kc_' BK961.out 0).trans rfl; have hcz15_1 : w13.cell? ⟨gb961, 1, none⟩ = some (.int .i64 a1_1) := (kc_' BK961.out 1).trans rfl; have hfz15_0 := kf_' BK961.out 0; have hfz15_1 := kf_' BK961.out 1) | (go_at_call 149; (with_reducible refine (spec_IsRatio.calls k a1_0 a1_1 t964 _ A9.out).mono ?_); rintro e w16 ⟨rfl, hb⟩; have n0_ := sk_' (blk_below (g := gb960) (o := .cells #[.int .i64 a0_0, .int .i64 a0_1] 134 (0, 0)) (by (with_reducible repeat (first | refine kn_' ?_ _ | refine kd_' ?_ | refine ka_' ?_ _)); exact BK960.out) hb); have n1_ := sk_' (blk_below (g := gb961) (o := .cells #[.int .i64 a1_0, .int .i64 a1_1] 134 (0, 0)) (by (with_reducible repeat (first | refine kn_' ?_ _ | refine kd_' ?_ | refine ka_' ?_ _)); exact BK961.out) hb); have n2_ := sk_' (blk_below (g := gb962) (o := .cells #[.int .i64 0, .int .i64 0] 134 (0, 0)) (by (with_reducible repeat (first | refine kn_' ?_ _ | refine kd_' ?_ | refine ka_' ?_ _)); exact BK962.out) hb); have n3_ := sk_' (pp_' (by repeat (first | (with_reducible first | exact HB.out | apply pa_' | apply pn_' | apply pd_' | refine pt_' ?_ GE960.out | refine pt_' ?_ GE961.out | refine pt_' ?_ GE962.out) | exact HB.out)) hb); clear BK960; clear BK961; clear BK962; clear HB; have BK960 := n0_; have BK961 := n1_; have BK962 := n2_; have HB := n3_; clear n0_ n1_ n2_ n3_; (try clear hb); (try clear hb2); (try clear hk); (try clear hi)))
   go_meet
   case rel => exact ⟨_, (!t964), (by first | rfl | (simp; done) | (simp [*]; done)), H', ⟨by first | omega | exact Nat.le_refl _⟩, ⟨by (with_reducible repeat (first | refine kn_' ?_ _ | refine kd_' ?_ | refine ka_' ?_ _)); exact BK960.out⟩, ⟨by (with_reducible repeat (first | refine kn_' ?_ _ | refine kd_' ?_ | refine ka_' ?_ _)); exact BK961.out⟩, ⟨by (with_reducible repeat (first | refine kn_' ?_ _ | refine kd_' ?_ | refine ka_' ?_ _)); exact BK962.out⟩, ⟨by repeat (first | (with_reducible first | exact HB.out | apply pa_' | apply pn_' | apply pd_' | refine pt_' ?_ GE960.out | refine pt_' ?_ GE961.out | refine pt_' ?_ GE962.out) | exact HB.out)⟩⟩
  replace c8 := Bool.eq_false_iff.mpr c8
  subst c8
  rw [if_neg (show ¬ (false = true) by decide)] at H
  have H' := sk_' H
  clear H
  have hnb17 := NB960_961.out
  have hnc17 := NB961_960.out
  have hnb18 := NB960_962.out
  have hnc18 := NB962_960.out
  have hcz19_0 : w6.cell? ⟨gb960, 0, none⟩ = some (.int .i64 a0_0) := (kc_' BK960.out 0).trans rfl
  have hcz19_1 : w6.cell? ⟨gb960, 1, none⟩ = some (.int .i64 a0_1) := (kc_' BK960.out 1).trans rfl
  have hfz19_0 := kf_' BK960.out 0
  have hfz19_1 := kf_' BK960.out 1
  go_wp2_with (first | ((with_reducible refine xj_' (f := 149) rfl ?_); refine goesL_ (some 12) rfl rfl Try.func149 (by kernel_rfl) rfl #[.agg #[.int .i64 a0_0, .int .i64 a0_1]] rfl (by (try simp only [xm_', xc_', xn_']); first | done | rfl | (simp only [xd_', xt_']; rfl)) ?_; (with_reducible refine (spec_IsRatio.calls k a0_0 a0_1 false _ A7.out).mono ?_); rintro e w20 ⟨rfl, hb⟩; refine ⟨_, rfl, ?_⟩; have n0_ := sk_' (blk_below (g := gb960) (o := .cells #[.int .i64 a0_0, .int .i64 a0_1] 134 (0, 0)) (by (with_reducible repeat (first | refine kn_' ?_ _ | refine kd_' ?_ | refine ka_' ?_ _)); exact BK960.out) hb); have n1_ := sk_' (blk_below (g := gb961) (o := .cells #[.int .i64 a1_0, .int .i64 a1_1] 134 (0, 0)) (by (with_reducible repeat (first | refine kn_' ?_ _ | refine kd_' ?_ | refine ka_' ?_ _)); exact BK961.out) hb); have n2_ := sk_' (blk_below (g := gb962) (o := .cells #[.int .i64 0, .int .i64 0] 134 (0, 0)) (by (with_reducible repeat (first | refine kn_' ?_ _ | refine kd_' ?_ | refine ka_' ?_ _)); exact BK962.out) hb); have n3_ := sk_' (pp_' (by repeat (first | (with_reducible first | exact HB.out | apply pa_' | apply pn_' | apply pd_' | refine pt_' ?_ GE960.out | refine pt_' ?_ GE961.out | refine pt_' ?_ GE962.out) | exact HB.out)) hb); clear BK960; clear BK961; clear BK962; clear HB; have BK960 := n0_; have BK961 := n1_; have BK962 := n2_; have HB := n3_; clear n0_ n1_ n2_ n3_; (try clear hb); (try clear hb2); (try clear hk); (try clear hi)))
  go_meet
  case rel => exact ⟨_, (true), (by first | rfl | (simp; done) | (simp [*]; done)), H', ⟨by first | omega | exact Nat.le_refl _⟩, ⟨by (with_reducible repeat (first | refine kn_' ?_ _ | refine kd_' ?_ | refine ka_' ?_ _)); exact BK960.out⟩, ⟨by (with_reducible repeat (first | refine kn_' ?_ _ | refine kd_' ?_ | refine ka_' ?_ _)); exact BK961.out⟩, ⟨by (with_reducible repeat (first | refine kn_' ?_ _ | refine kd_' ?_ | refine ka_' ?_ _)); exact BK962.out⟩, ⟨by repeat (first | (with_reducible first | exact HB.out | apply pa_' | apply pn_' | apply pd_' | refine pt_' ?_ GE960.out | refine pt_' ?_ GE961.out | refine pt_' ?_ GE962.out) | exact HB.out)⟩⟩
 case rest =>
  clear HC3
  try clear c1
  try clear p2
  try clear c8
  try clear c10
  try clear c11
  try clear c14
  try clear c17
  try clear c18
  try clear hcz12_0
  try clear hcz12_1
  try clear hcz15_0
  try clear hcz15_1
  try clear hcz19_0
  try clear hcz19_1
  try clear hfz12_0
  try clear hfz12_1
  try clear hfz15_0
  try clear hfz15_1
  try clear hfz19_0
  try clear hfz19_1
  obtain ⟨kq, x18_2, rfl, HA, HJ2, BK960, BK961, BK962, HB⟩ := hcut
  cases kq with
  | zero => exact absurd HA.out (by simp [spec_AddRatio.j0])
  | succ kj2 =>
   have H := HA.out
   clear HA
   simp only [spec_AddRatio.j0] at H
   by_cases c21 : x18_2 = true
   ·
    subst c21
    rw [if_pos rfl] at H
    simp only [Option.some.injEq, Prod.mk.injEq] at H
    obtain ⟨rfl, rfl, rfl⟩ := H
    have hnb22 := NB962_960.out
    have hnc22 := NB960_962.out
    have hnb23 := NB962_961.out
    have hnc23 := NB961_962.out
    have hcz24_0 : wc.cell? ⟨gb962, 0, none⟩ = some (.int .i64 0) := (kc_' BK962.out 0).trans rfl
    have hcz24_1 : wc.cell? ⟨gb962, 1, none⟩ = some (.int .i64 0) := (kc_' BK962.out 1).trans rfl
    have hfz24_0 := kf_' BK962.out 0
    have hfz24_1 := kf_' BK962.out 1
    go_wp2
    refine bodyPost_ret (results_ct rfl _ _ gb962 134 #[.int .i64 0, .int .i64 0] (0, 0) _ rfl (by (with_reducible repeat (first | refine kn_' ?_ _ | refine kd_' ?_ | refine ka_' ?_ _)); refine blk_put (cs := #[.int .i64 0, .int .i64 0]) ?_ 1 _ rfl; (with_reducible repeat (first | refine kn_' ?_ _ | refine kd_' ?_ | refine ka_' ?_ _)); refine blk_put (cs := #[.int .i64 0, .int .i64 0]) ?_ 0 _ rfl; (with_reducible repeat (first | refine kn_' ?_ _ | refine kd_' ?_ | refine ka_' ?_ _)); exact BK962.out) Try.underlying134 rfl (by kernel_rfl)) rfl ?_
    exact ⟨by first | rfl | (simp [errW_none, errW_some] <;> rfl) | (simp [*, errW_none, errW_some] <;> rfl), by repeat (first | (with_reducible first | exact HB.out | apply pa_' | apply pn_' | apply pd_' | refine pt_' ?_ GE960.out | refine pt_' ?_ GE961.out | refine pt_' ?_ GE962.out) | exact HB.out)⟩
   replace c21 := Bool.eq_false_iff.mpr c21
   subst c21
   rw [if_neg (show ¬ (false = true) by decide)] at H
   replace H := bs_' H
   obtain ⟨t965, A250, H⟩ := H
   try dsimp only at H
   have A25 := sk_' A250
   clear A250
   by_cases c26 : t965 = 0
   ·
    rw [if_pos c26] at H
    exact absurd H (by simp)
   rw [if_neg c26] at H
   have c26b0 : (t965 == 0) = false := beq_eq_false_iff_ne.mpr c26
   have c26b1 : (t965 != 0) = true := bne_iff_ne.mpr c26
   replace H := bs_' H
   obtain ⟨t966, A270, H⟩ := H
   try dsimp only at H
   have A27 := sk_' A270
   clear A270
   replace H := bs_' H
   obtain ⟨t967, A280, H⟩ := H
   try dsimp only at H
   have A28 := sk_' A280
   clear A280
   by_cases c29 : t967 = 0
   ·
    rw [if_pos c29] at H
    exact absurd H (by simp)
   rw [if_neg c29] at H
   have c29b0 : (t967 == 0) = false := beq_eq_false_iff_ne.mpr c29
   have c29b1 : (t967 != 0) = true := bne_iff_ne.mpr c29
   replace H := bs_' H
   obtain ⟨t969, A300, H⟩ := H
   try dsimp only at H
   have A30 := sk_' A300
   clear A300
   by_cases c31 : t969 = true
   ·
    subst c31
    rw [if_pos rfl] at H
    simp only [Option.some.injEq, Prod.mk.injEq] at H
    obtain ⟨rfl, rfl, rfl⟩ := H
    have hnb32 := NB960_961.out
    have hnc32 := NB961_960.out
    have hnb33 := NB960_962.out
    have hnc33 := NB962_960.out
    have hcz34_0 : wc.cell? ⟨gb960, 0, none⟩ = some (.int .i64 a0_0) := (kc_' BK960.out 0).trans rfl
    have hcz34_1 : wc.cell? ⟨gb960, 1, none⟩ = some (.int .i64 a0_1) := (kc_' BK960.out 1).trans rfl
    have hfz34_0 := kf_' BK960.out 0
    have hfz34_1 := kf_' BK960.out 1
    have hnb35 := NB961_962.out
    have hnc35 := NB962_961.out
    have hcz36_0 : wc.cell? ⟨gb961, 0, none⟩ = some (.int .i64 a1_0) := (kc_' BK961.out 0).trans rfl
    have hcz36_1 : wc.cell? ⟨gb961, 1, none⟩ = some (.int .i64 a1_1) := (kc_' BK961.out 1).trans rfl
    have hfz36_0 := kf_' BK961.out 0
    have hfz36_1 := kf_' BK961.out 1
    try go_wp2_with (first | ((with_reducible refine xj_' (f := 176) rfl ?_); refine goesL_ (some 24) rfl rfl Try.func176 (by kernel_rfl) rfl #[.int .i64 a0_1, .int .i64 a1_1] rfl (by (try simp only [xm_', xc_', xn_']); first | done | rfl | (simp only [xd_', xt_']; rfl)) ?_; (with_reducible refine (spec_l4Gcd.calls kj2 a0_1 a1_1 t965 _ A25.out).mono ?_); rintro e w' ⟨rfl, ⟨nd, rfl⟩⟩; refine ⟨_, rfl, ?_⟩; (try (rw [drewN_self wc]; generalize hq_ : World.drewN wc _ = wc; have n0_ : Aside0 (wc.heap[gb960]? = some (.cells #[.int .i64 a0_0, .int .i64 a0_1] 134 (0, 0))) := ⟨by rw [← hq_]; exact (by (with_reducible repeat (first | refine kn_' ?_ _ | refine kd_' ?_ | refine ka_' ?_ _)); exact BK960.out)⟩; have n1_ : Aside0 (wc.heap[gb961]? = some (.cells #[.int .i64 a1_0, .int .i64 a1_1] 134 (0, 0))) := ⟨by rw [← hq_]; exact (by (with_reducible repeat (first | refine kn_' ?_ _ | refine kd_' ?_ | refine ka_' ?_ _)); exact BK961.out)⟩; have n2_ : Aside0 (wc.heap[gb962]? = some (.cells #[.int .i64 0, .int .i64 0] 134 (0, 0))) := ⟨by rw [← hq_]; exact (by (with_reducible repeat (first | refine kn_' ?_ _ | refine kd_' ?_ | refine ka_' ?_ _)); exact BK962.out)⟩; have n3_ : Aside0 (Below w.heap.size w wc) := ⟨by rw [← hq_]; exact (by repeat (first | (with_reducible first | exact HB.out | apply pa_' | apply pn_' | apply pd_' | refine pt_' ?_ GE960.out | refine pt_' ?_ GE961.out | refine pt_' ?_ GE962.out) | exact HB.out))⟩; clear BK960 BK961 BK962 HB hq_; have BK960 := n0_; have BK961 := n1_; have BK962 := n2_; have HB := n3_; clear n0_ n1_ n2_ n3_))))
    have n0_ := sk_' (kd_' BK960.out)
    have n1_ := sk_' (kd_' BK961.out)
    have n2_ := sk_' (kd_' BK962.out)
    have n3_ := sk_' (pd_' HB.out)
    clear BK960
    clear BK961
    clear BK962
    clear HB
    have BK960 := n0_
    have BK961 := n1_
    have BK962 := n2_
    have HB := n3_
    clear n0_ n1_ n2_ n3_
    refine start_ (n := 16) (S := fun w' => w'.cell? ⟨gb960, 0, none⟩ = some (.int .i64 a0_0) ∧ w'.cell? ⟨gb960, 1, none⟩ = some (.int .i64 a0_1) ∧ w'.cell? ⟨gb961, 0, none⟩ = some (.int .i64 a1_0) ∧ w'.cell? ⟨gb961, 1, none⟩ = some (.int .i64 a1_1)) (ds := []) #[false, false, false, false, false, false, false, false, false, false, false, false, false, false, false, false] (by kernel_rfl) rfl rfl ⟨(kc_' BK960.out 0).trans rfl, (kc_' BK960.out 1).trans rfl, (kc_' BK961.out 0).trans rfl, (kc_' BK961.out 1).trans rfl⟩ (fun hHeld => ?_); refine with_tabW spec_AddRatio.tab4 spec_AddRatio.bits4 (fun HT_ HW_ => ?_)
    generalize wc.drew = w37 at BK960 BK961 BK962 HB hHeld ⊢
    refine pure_ (i := 0) (N := some 25) (v := ?_) (a' := ?_) #[true, false, false, false, false, false, false, false, false, false, false, false, false, false, false, false] rfl rfl (any_of HT_.out (by kernel_rfl)) (fun _ _ _ h => h) (Or.inl ⟨by rfl, ?_⟩) ?_ ?_
    rotate_left
    ·
     intro w'
     go_simp
     with_reducible rfl
    rotate_left
    ·
     simp only [Act.put, sa_', sz_', sc_', i64_w, i32_w]
     rfl
    refine pure_ (i := 2) (N := some 27) (v := ?_) (a' := ?_) #[true, false, true, false, false, false, false, false, false, false, false, false, false, false, false, false] rfl rfl (any_of HT_.out (by kernel_rfl)) (fun _ _ _ h => h) (Or.inl ⟨by rfl, ?_⟩) ?_ ?_
    rotate_left
    ·
     intro w'
     go_simp
     with_reducible rfl
    rotate_left
    ·
     simp only [Act.put, sa_', sz_', sc_', i64_w, i32_w]
     rfl
    refine pure_ (i := 4) (N := some 29) (v := ?_) (a' := ?_) #[true, false, true, false, true, false, false, false, false, false, false, false, false, false, false, false] rfl rfl (any_of HT_.out (by kernel_rfl)) (fun _ _ _ h => h) (Or.inl ⟨by rfl, ?_⟩) ?_ ?_
    rotate_left
    ·
     intro w'
     go_simp
     with_reducible rfl
    rotate_left
    ·
     simp only [Act.put, sa_', sz_', sc_', i64_w, i32_w]
     rfl
    refine pure_ (i := 7) (N := some 32) (v := ?_) (a' := ?_) #[true, false, true, false, true, false, false, true, false, false, false, false, false, false, false, false] rfl rfl (any_of HT_.out (by kernel_rfl)) (fun _ _ _ h => h) (Or.inl ⟨by rfl, ?_⟩) ?_ ?_
    rotate_left
    ·
     intro w'
     go_simp
     with_reducible rfl
    rotate_left
    ·
     simp only [Act.put, sa_', sz_', sc_', i64_w, i32_w]
     rfl
    refine pure_ (i := 9) (N := some 34) (v := ?_) (a' := ?_) #[true, false, true, false, true, false, false, true, false, true, false, false, false, false, false, false] rfl rfl (any_of HT_.out (by kernel_rfl)) (fun _ _ _ h => h) (Or.inl ⟨by rfl, ?_⟩) ?_ ?_
    rotate_left
    ·
     intro w'
     go_simp
     with_reducible rfl
    rotate_left
    ·
     simp only [Act.put, sa_', sz_', sc_', i64_w, i32_w]
     rfl
    refine pure_ (i := 11) (N := some 36) (v := ?_) (a' := ?_) #[true, false, true, false, true, false, false, true, false, true, false, true, false, false, false, false] rfl rfl (any_of HT_.out (by kernel_rfl)) (fun _ _ _ h => h) (Or.inl ⟨by rfl, ?_⟩) ?_ ?_
    rotate_left
    ·
     intro w'
     go_simp
     with_reducible rfl
    rotate_left
    ·
     simp only [Act.put, sa_', sz_', sc_', i64_w, i32_w]
     rfl
    refine take_ (i := 1) (N := some 26) (v := ?_) (a' := ?_) #[true, true, true, false, true, false, false, true, false, true, false, true, false, false, false, false] rfl rfl (take_ofW HT_.out HW_.out (by kernel_rfl)) (fun _ _ _ h => h) (Or.inl ⟨by rfl, ?_⟩) hHeld ?_ ?_
    rotate_left
    ·
     rintro w' ⟨s0, s1, s2, s3⟩
     go_simp
     with_reducible rfl
    rotate_left
    ·
     simp only [Act.put, sa_', sz_', sc_', i64_w, i32_w]
     rfl
    refine take_ (i := 3) (N := some 28) (v := ?_) (a' := ?_) #[true, true, true, true, true, false, false, true, false, true, false, true, false, false, false, false] rfl rfl (take_ofW HT_.out HW_.out (by kernel_rfl)) (fun _ _ _ h => h) (Or.inl ⟨by rfl, ?_⟩) hHeld ?_ ?_
    rotate_left
    ·
     rintro w' ⟨s0, s1, s2, s3⟩
     go_simp
     with_reducible rfl
    rotate_left
    ·
     simp only [Act.put, sa_', sz_', sc_', i64_w, i32_w]
     rfl
    refine pure_ (i := 5) (N := some 30) (v := ?_) (a' := ?_) #[true, true, true, true, true, true, false, true, false, true, false, true, false, false, false, false] rfl rfl (any_of HT_.out (by kernel_rfl)) (fun _ _ _ h => h) (Or.inl ⟨by rfl, ?_⟩) ?_ ?_
    rotate_left
    ·
     intro w'
     go_simp
     with_reducible rfl
    rotate_left
    ·
     simp only [Act.put, sa_', sz_', sc_', i64_w, i32_w]
     rfl
    refine pure_ (i := 6) (N := some 31) (v := ?_) (a' := ?_) #[true, true, true, true, true, true, true, true, false, true, false, true, false, false, false, false] rfl rfl (any_of HT_.out (by kernel_rfl)) (fun _ _ _ h => h) (Or.inl ⟨by rfl, ?_⟩) ?_ ?_
    rotate_left
    ·
     intro w'
     go_simp
     with_reducible rfl
    rotate_left
    ·
     simp only [Act.put, sa_', sz_', sc_', i64_w, i32_w]
     rfl
    refine take_ (i := 8) (N := some 33) (v := ?_) (a' := ?_) #[true, true, true, true, true, true, true, true, true, true, false, true, false, false, false, false] rfl rfl (take_ofW HT_.out HW_.out (by kernel_rfl)) (fun _ _ _ h => h) (Or.inl ⟨by rfl, ?_⟩) hHeld ?_ ?_
    rotate_left
    ·
     rintro w' ⟨s0, s1, s2, s3⟩
     go_simp
     with_reducible rfl
    rotate_left
    ·
     simp only [Act.put, sa_', sz_', sc_', i64_w, i32_w]
     rfl
    refine take_ (i := 10) (N := some 35) (v := ?_) (a' := ?_) #[true, true, true, true, true, true, true, true, true, true, true, true, false, false, false, false] rfl rfl (take_ofW HT_.out HW_.out (by kernel_rfl)) (fun _ _ _ h => h) (Or.inl ⟨by rfl, ?_⟩) hHeld ?_ ?_
    rotate_left
    ·
     rintro w' ⟨s0, s1, s2, s3⟩
     go_simp
     with_reducible rfl
    rotate_left
    ·
     simp only [Act.put, sa_', sz_', sc_', i64_w, i32_w]
     rfl
    refine pure_ (i := 12) (N := some 37) (v := ?_) (a' := ?_) #[true, true, true, true, true, true, true, true, true, true, true, true, true, false, false, false] rfl rfl (any_of HT_.out (by kernel_rfl)) (fun _ _ _ h => h) (Or.inl ⟨by rfl, ?_⟩) ?_ ?_
    rotate_left
    ·
     intro w'
     go_simp
     with_reducible rfl
    rotate_left
    ·
     simp only [Act.put, sa_', sz_', sc_', i64_w, i32_w]
     rfl
    refine pure_ (i := 13) (N := some 38) (v := ?_) (a' := ?_) #[true, true, true, true, true, true, true, true, true, true, true, true, true, true, false, false] rfl rfl (any_of HT_.out (by kernel_rfl)) (fun _ _ _ h => h) (Or.inl ⟨by rfl, ?_⟩) ?_ ?_
    rotate_left
    ·
     intro w'
     go_simp
     with_reducible rfl
    rotate_left
    ·
     simp only [Act.put, sa_', sz_', sc_', i64_w, i32_w]
     rfl
    refine pure_ (i := 14) (N := some 39) (v := ?_) (a' := ?_) #[true, true, true, true, true, true, true, true, true, true, true, true, true, true, true, false] rfl rfl (any_of HT_.out (by kernel_rfl)) (fun _ _ _ h => h) (Or.inl ⟨by rfl, ?_⟩) ?_ ?_
    rotate_left
    ·
     intro w'
     go_simp
     with_reducible rfl
    rotate_left
    ·
     simp only [Act.put, sa_', sz_', sc_', i64_w, i32_w]
     rfl
    refine pure_ (i := 15) (N := some 7) (v := ?_) (a' := ?_) #[true, true, true, true, true, true, true, true, true, true, true, true, true, true, true, true] rfl rfl (any_of HT_.out (by kernel_rfl)) (fun _ _ _ h => h) (Or.inl ⟨by rfl, ?_⟩) ?_ ?_
    rotate_left
    ·
     intro w'
     go_simp
     with_reducible rfl
    rotate_left
    ·
     simp only [Act.put, sa_', sz_', sc_', i64_w, i32_w]
     rfl
    refine done_ (done_of HT_.out (by kernel_rfl)) ?_
    try go_wp2
    have n0_ := sk_' (kd_' BK960.out)
    have n1_ := sk_' (kd_' BK961.out)
    have n2_ := sk_' (kd_' BK962.out)
    have n3_ := sk_' (pd_' HB.out)
    clear BK960
    clear BK961
    clear BK962
    clear HB
    have BK960 := n0_
    have BK961 := n1_
    have BK962 := n2_
    have HB := n3_
    clear n0_ n1_ n2_ n3_
    refine start_ (n := 8) (S := fun w' => w'.cell? ⟨gb960, 0, none⟩ = some (.int .i64 a0_0) ∧ w'.cell? ⟨gb960, 1, none⟩ = some (.int .i64 a0_1) ∧ w'.cell? ⟨gb961, 0, none⟩ = some (.int .i64 a1_0) ∧ w'.cell? ⟨gb961, 1, none⟩ = some (.int .i64 a1_1)) (ds := []) #[false, false, false, false, false, false, false, false] (by kernel_rfl) rfl rfl ⟨(kc_' BK960.out 0).trans rfl, (kc_' BK960.out 1).trans rfl, (kc_' BK961.out 0).trans rfl, (kc_' BK961.out 1).trans rfl⟩ (fun hHeld => ?_); refine with_tabW spec_AddRatio.tab5 spec_AddRatio.bits5 (fun HT_ HW_ => ?_)
    generalize w37.drew = w38 at BK960 BK961 BK962 HB hHeld ⊢
    refine pure_ (i := 0) (N := some 40) (v := ?_) (a' := ?_) #[true, false, false, false, false, false, false, false] rfl rfl (any_of HT_.out (by kernel_rfl)) (fun _ _ _ h => h) (Or.inl ⟨by rfl, ?_⟩) ?_ ?_
    rotate_left
    ·
     intro w'
     go_simp
     with_reducible rfl
    rotate_left
    ·
     simp only [Act.put, sa_', sz_', sc_', i64_w, i32_w]
     rfl
    refine pure_ (i := 2) (N := some 42) (v := ?_) (a' := ?_) #[true, false, true, false, false, false, false, false] rfl rfl (any_of HT_.out (by kernel_rfl)) (fun _ _ _ h => h) (Or.inl ⟨by rfl, ?_⟩) ?_ ?_
    rotate_left
    ·
     intro w'
     go_simp
     with_reducible rfl
    rotate_left
    ·
     simp only [Act.put, sa_', sz_', sc_', i64_w, i32_w]
     rfl
    refine pure_ (i := 4) (N := some 44) (v := ?_) (a' := ?_) #[true, false, true, false, true, false, false, false] rfl rfl (any_of HT_.out (by kernel_rfl)) (fun _ _ _ h => h) (Or.inl ⟨by rfl, ?_⟩) ?_ ?_
    rotate_left
    ·
     intro w'
     go_simp
     with_reducible rfl
    rotate_left
    ·
     simp only [Act.put, sa_', sz_', sc_', i64_w, i32_w]
     rfl
    refine take_ (i := 1) (N := some 41) (v := ?_) (a' := ?_) #[true, true, true, false, true, false, false, false] rfl rfl (take_ofW HT_.out HW_.out (by kernel_rfl)) (fun _ _ _ h => h) (Or.inl ⟨by rfl, ?_⟩) hHeld ?_ ?_
    rotate_left
    ·
     rintro w' ⟨s0, s1, s2, s3⟩
     go_simp
     with_reducible rfl
    rotate_left
    ·
     simp only [Act.put, sa_', sz_', sc_', i64_w, i32_w]
     rfl
    refine pure_ (i := 3) (N := some 43) (v := ?_) (a' := ?_) #[true, true, true, true, true, false, false, false] rfl rfl (any_of HT_.out (by kernel_rfl)) (fun _ _ _ h => h) (Or.inl ⟨by rfl, ?_⟩) ?_ ?_
    rotate_left
    ·
     intro w'
     go_simp
     with_reducible rfl
    rotate_left
    ·
     simp only [Act.put, sa_', sz_', sc_', i64_w, i32_w]
     rfl
    refine take_ (i := 5) (N := some 45) (v := ?_) (a' := ?_) #[true, true, true, true, true, true, false, false] rfl rfl (take_ofW HT_.out HW_.out (by kernel_rfl)) (fun _ _ _ h => h) (Or.inl ⟨by rfl, ?_⟩) hHeld ?_ ?_
    rotate_left
    ·
     rintro w' ⟨s0, s1, s2, s3⟩
     go_simp
     with_reducible rfl
    rotate_left
    ·
     simp only [Act.put, sa_', sz_', sc_', i64_w, i32_w]
     rfl
    refine pure_ (i := 6) (N := some 46) (v := ?_) (a' := ?_) #[true, true, true, true, true, true, true, false] rfl rfl (any_of HT_.out (by kernel_rfl)) (fun _ _ _ h => h) (Or.inl ⟨by rfl, ?_⟩) ?_ ?_
    rotate_left
    ·
     intro w'
     go_simp
     with_reducible rfl
    rotate_left
    ·
     simp only [Act.put, sa_', sz_', sc_', i64_w, i32_w]
     rfl
    refine pure_ (i := 7) (N := some 8) (v := ?_) (a' := ?_) #[true, true, true, true, true, true, true, true] rfl rfl (any_of HT_.out (by kernel_rfl)) (fun _ _ _ h => h) (Or.inl ⟨by rfl, ?_⟩) ?_ ?_
    rotate_left
    ·
     intro w'
     go_simp
     with_reducible rfl
    rotate_left
    ·
     simp only [Act.put, sa_', sz_', sc_', i64_w, i32_w]
     rfl
    refine done_ (done_of HT_.out (by kernel_rfl)) ?_
    try go_wp2_with (first | ((with_reducible refine xj_' (f := 177) rfl ?_); refine goesL_ (some 48) rfl rfl Try.func177 (by kernel_rfl) rfl #[.int .i64 (wrap64 ((wrap64 (a0_0 * (wrap64 (Int.tdiv a1_1 t965)))) + (wrap64 (a1_0 * (wrap64 (Int.tdiv a0_1 t965))))))] rfl (by (try simp only [xm_', xc_', xn_']); first | done | rfl | (simp only [xd_', xt_']; rfl)) ?_; (with_reducible refine (spec_l4Abs.calls (wrap64 ((wrap64 (a0_0 * (wrap64 (Int.tdiv a1_1 t965)))) + (wrap64 (a1_0 * (wrap64 (Int.tdiv a0_1 t965)))))) t966 _ A27.out).mono ?_); rintro e w' ⟨rfl, ⟨nd, rfl⟩⟩; refine ⟨_, rfl, ?_⟩; (try (rw [drewN_self w38]; generalize hq_ : World.drewN w38 _ = w38; have n0_ : Aside0 (w38.heap[gb960]? = some (.cells #[.int .i64 a0_0, .int .i64 a0_1] 134 (0, 0))) := ⟨by rw [← hq_]; exact (by (with_reducible repeat (first | refine kn_' ?_ _ | refine kd_' ?_ | refine ka_' ?_ _)); exact BK960.out)⟩; have n1_ : Aside0 (w38.heap[gb961]? = some (.cells #[.int .i64 a1_0, .int .i64 a1_1] 134 (0, 0))) := ⟨by rw [← hq_]; exact (by (with_reducible repeat (first | refine kn_' ?_ _ | refine kd_' ?_ | refine ka_' ?_ _)); exact BK961.out)⟩; have n2_ : Aside0 (w38.heap[gb962]? = some (.cells #[.int .i64 0, .int .i64 0] 134 (0, 0))) := ⟨by rw [← hq_]; exact (by (with_reducible repeat (first | refine kn_' ?_ _ | refine kd_' ?_ | refine ka_' ?_ _)); exact BK962.out)⟩; have n3_ : Aside0 (Below w.heap.size w w38) := ⟨by rw [← hq_]; exact (by repeat (first | (with_reducible first | exact HB.out | apply pa_' | apply pn_' | apply pd_' | refine pt_' ?_ GE960.out | refine pt_' ?_ GE961.out | refine pt_' ?_ GE962.out) | exact HB.out))⟩; clear BK960 BK961 BK962 HB hq_; have BK960 := n0_; have BK961 := n1_; have BK962 := n2_; have HB := n3_; clear n0_ n1_ n2_ n3_))) | ((with_reducible refine xj_' (f := 176) rfl ?_); refine goesL_ (some 50) rfl rfl Try.func176 (by kernel_rfl) rfl #[.int .i64 t966, .int .i64 (wrap64 ((wrap64 (Int.tdiv a0_1 t965)) * a1_1))] rfl (by (try simp only [xm_', xc_', xn_']); first | done | rfl | (simp only [xd_', xt_']; rfl)) ?_; (with_reducible refine (spec_l4Gcd.calls kj2 t966 (wrap64 ((wrap64 (Int.tdiv a0_1 t965)) * a1_1)) t967 _ A28.out).mono ?_); rintro e w' ⟨rfl, ⟨nd, rfl⟩⟩; refine ⟨_, rfl, ?_⟩; (try (rw [drewN_self w38]; generalize hq_ : World.drewN w38 _ = w38; have n0_ : Aside0 (w38.heap[gb960]? = some (.cells #[.int .i64 a0_0, .int .i64 a0_1] 134 (0, 0))) := ⟨by rw [← hq_]; exact (by (with_reducible repeat (first | refine kn_' ?_ _ | refine kd_' ?_ | refine ka_' ?_ _)); exact BK960.out)⟩; have n1_ : Aside0 (w38.heap[gb961]? = some (.cells #[.int .i64 a1_0, .int .i64 a1_1] 134 (0, 0))) := ⟨by rw [← hq_]; exact (by (with_reducible repeat (first | refine kn_' ?_ _ | refine kd_' ?_ | refine ka_' ?_ _)); exact BK961.out)⟩; have n2_ : Aside0 (w38.heap[gb962]? = some (.cells #[.int .i64 0, .int .i64 0] 134 (0, 0))) := ⟨by rw [← hq_]; exact (by (with_reducible repeat (first | refine kn_' ?_ _ | refine kd_' ?_ | refine ka_' ?_ _)); exact BK962.out)⟩; have n3_ : Aside0 (Below w.heap.size w w38) := ⟨by rw [← hq_]; exact (by repeat (first | (with_reducible first | exact HB.out | apply pa_' | apply pn_' | apply pd_' | refine pt_' ?_ GE960.out | refine pt_' ?_ GE961.out | refine pt_' ?_ GE962.out) | exact HB.out))⟩; clear BK960 BK961 BK962 HB hq_; have BK960 := n0_; have BK961 := n1_; have BK962 := n2_; have HB := n3_; clear n0_ n1_ n2_ n3_))))
    have n0_ := sk_' (kd_' BK960.out)
    have n1_ := sk_' (kd_' BK961.out)
    have n2_ := sk_' (kd_' BK962.out)
    have n3_ := sk_' (pd_' HB.out)
    clear BK960
    clear BK961
    clear BK962
    clear HB
    have BK960 := n0_
    have BK961 := n1_
    have BK962 := n2_
    have HB := n3_
    clear n0_ n1_ n2_ n3_
    refine start_ (n := 9) (S := fun w' => True) (ds := []) #[false, false, false, false, false, false, false, false, false] (by kernel_rfl) rfl rfl trivial (fun hHeld => ?_); refine with_tabW spec_AddRatio.tab7 spec_AddRatio.bits7 (fun HT_ HW_ => ?_)
    generalize w38.drew = w39 at BK960 BK961 BK962 HB hHeld ⊢
    refine pure_ (i := 0) (N := some 51) (v := ?_) (a' := ?_) #[true, false, false, false, false, false, false, false, false] rfl rfl (any_of HT_.out (by kernel_rfl)) (fun _ _ _ h => h) (Or.inl ⟨by rfl, ?_⟩) ?_ ?_
    rotate_left
    ·
     intro w'
     go_simp
     with_reducible rfl
    rotate_left
    ·
     simp only [Act.put, sa_', sz_', sc_', i64_w, i32_w]
     rfl
    refine pure_ (i := 1) (N := some 52) (v := ?_) (a' := ?_) #[true, true, false, false, false, false, false, false, false] rfl rfl (any_of HT_.out (by kernel_rfl)) (fun _ _ _ h => h) (Or.inl ⟨by rfl, ?_⟩) ?_ ?_
    rotate_left
    ·
     intro w'
     go_simp
     with_reducible rfl
    rotate_left
    ·
     simp only [Act.put, sa_', sz_', sc_', i64_w, i32_w]
     rfl
    refine pure_ (i := 2) (N := some 53) (v := ?_) (a' := ?_) #[true, true, true, false, false, false, false, false, false] rfl rfl (any_of HT_.out (by kernel_rfl)) (fun _ _ _ h => h) (Or.inl ⟨by rfl, ?_⟩) ?_ ?_
    rotate_left
    ·
     intro w'
     go_simp
     with_reducible rfl
    rotate_left
    ·
     simp only [Act.put, sa_', sz_', sc_', i64_w, i32_w]
     rfl
    refine pure_ (i := 3) (N := some 54) (v := ?_) (a' := ?_) #[true, true, true, true, false, false, false, false, false] rfl rfl (any_of HT_.out (by kernel_rfl)) (fun _ _ _ h => h) (Or.inl ⟨by rfl, ?_⟩) ?_ ?_
    rotate_left
    ·
     intro w'
     go_simp
     with_reducible rfl
    rotate_left
    ·
     simp only [Act.put, sa_', sz_', sc_', i64_w, i32_w]
     rfl
    refine pure_ (i := 4) (N := some 55) (v := ?_) (a' := ?_) #[true, true, true, true, true, false, false, false, false] rfl rfl (any_of HT_.out (by kernel_rfl)) (fun _ _ _ h => h) (Or.inl ⟨by rfl, ?_⟩) ?_ ?_
    rotate_left
    ·
     intro w'
     go_simp
     with_reducible rfl
    rotate_left
    ·
     simp only [Act.put, sa_', sz_', sc_', i64_w, i32_w]
     rfl
    refine pure_ (i := 5) (N := some 56) (v := ?_) (a' := ?_) #[true, true, true, true, true, true, false, false, false] rfl rfl (any_of HT_.out (by kernel_rfl)) (fun _ _ _ h => h) (Or.inl ⟨by rfl, ?_⟩) ?_ ?_
    rotate_left
    ·
     intro w'
     go_simp
     with_reducible rfl
    rotate_left
    ·
     simp only [Act.put, sa_', sz_', sc_', i64_w, i32_w]
     rfl
    refine pure_ (i := 6) (N := some 57) (v := ?_) (a' := ?_) #[true, true, true, true, true, true, true, false, false] rfl rfl (any_of HT_.out (by kernel_rfl)) (fun _ _ _ h => h) (Or.inl ⟨by rfl, ?_⟩) ?_ ?_
    rotate_left
    ·
     intro w'
     go_simp
     with_reducible rfl
    rotate_left
    ·
     simp only [Act.put, sa_', sz_', sc_', i64_w, i32_w]
     rfl
    refine one_ (i := 7) (N := some 10) #[true, true, true, true, true, true, true, true, false] rfl rfl (one_of HT_.out (by kernel_rfl)) (by decide) (fun K hK => ?_)
    refine box_step ?hg (N := 10) ?hd (cs := #[.int .i64 0, .int .i64 0]) (t := 134) ?hr ?_; (case hd => rfl); (case hg => rfl); (case hr => first | (go_simp; done) | (go_simp; rfl))
    intro gb968 hg w40 hbox hb
    have n0_ := sk_' (blk_below (g := gb960) (o := .cells #[.int .i64 a0_0, .int .i64 a0_1] 134 (0, 0)) (km BK960) hb)
    have n1_ := sk_' (blk_below (g := gb961) (o := .cells #[.int .i64 a1_0, .int .i64 a1_1] 134 (0, 0)) (km BK961) hb)
    have n2_ := sk_' (blk_below (g := gb962) (o := .cells #[.int .i64 0, .int .i64 0] 134 (0, 0)) (km BK962) hb)
    have n3_ := sk_' (pp_' (bm HB) hb)
    have n4_ := sk_' (hbox)
    have n5_ := sk_' ((by rw [hg]; exact (ps_' (bm HB)) : w.heap.size ≤ gb968))
    have n6_ := sk_' ((by rw [hg]; exact (ps_' (bm HB)) : w.heap.size ≤ gb968))
    have n7_ := sk_' ((by rw [hg]; exact Nat.ne_of_lt (blk_lt (g := gb960) (o := .cells #[.int .i64 a0_0, .int .i64 a0_1] 134 (0, 0)) (km BK960)) : gb960 ≠ gb968))
    have n8_ := sk_' ((by rw [hg]; exact Nat.ne_of_gt (blk_lt (g := gb960) (o := .cells #[.int .i64 a0_0, .int .i64 a0_1] 134 (0, 0)) (km BK960)) : gb968 ≠ gb960))
    have n9_ := sk_' ((by rw [hg]; exact Nat.ne_of_lt (blk_lt (g := gb961) (o := .cells #[.int .i64 a1_0, .int .i64 a1_1] 134 (0, 0)) (km BK961)) : gb961 ≠ gb968))
    have n10_ := sk_' ((by rw [hg]; exact Nat.ne_of_gt (blk_lt (g := gb961) (o := .cells #[.int .i64 a1_0, .int .i64 a1_1] 134 (0, 0)) (km BK961)) : gb968 ≠ gb961))
    have n11_ := sk_' ((by rw [hg]; exact Nat.ne_of_lt (blk_lt (g := gb962) (o := .cells #[.int .i64 0, .int .i64 0] 134 (0, 0)) (km BK962)) : gb962 ≠ gb968))
    have n12_ := sk_' ((by rw [hg]; exact Nat.ne_of_gt (blk_lt (g := gb962) (o := .cells #[.int .i64 0, .int .i64 0] 134 (0, 0)) (km BK962)) : gb968 ≠ gb962))
    clear BK960
    clear BK961
    clear BK962
    clear HB
    have BK960 := n0_
    have BK961 := n1_
    have BK962 := n2_
    have HB := n3_
    have BK968 := n4_
    have GW968 := n5_
    have GE968 := n6_
    have NB960_968 := n7_
    have NB968_960 := n8_
    have NB961_968 := n9_
    have NB968_961 := n10_
    have NB962_968 := n11_
    have NB968_962 := n12_
    clear n0_ n1_ n2_ n3_ n4_ n5_ n6_ n7_ n8_ n9_ n10_ n11_ n12_
    clear hb hbox hg
    refine hK.out _ _ trivial (fun hHeld => ?_)
    clear hK K
    refine norm_ (a' := ?_) ?_ ?_
    rotate_left
    ·
     show Act.put _ (some 10) _ = _
     simp only [Act.put, sa_', sz_', sc_', i64_w, i32_w]
     rfl
    refine one_ (i := 8) (N := none) #[true, true, true, true, true, true, true, true, true] rfl rfl (one_of HT_.out (by kernel_rfl)) (by decide) (fun K hK => ?_)
    have hs41 : w40.cell? ⟨gb968, 0, none⟩ = some (.int .i64 0) := (kc_' BK968.out 0).trans rfl
    have hfs41 := kf_' BK968.out 0
    have hns41_0 := NB960_968.out
    have hns41_1 := NB961_968.out
    have hns41_2 := NB962_968.out
    have hms41_0 := NB968_960.out
    have hms41_1 := NB968_961.out
    have hms41_2 := NB968_962.out
    have hs42 : w40.cell? ⟨gb968, 1, none⟩ = some (.int .i64 0) := (kc_' BK968.out 1).trans rfl
    have hfs42 := kf_' BK968.out 1
    have hns42_0 := NB960_968.out
    have hns42_1 := NB961_968.out
    have hns42_2 := NB962_968.out
    have hms42_0 := NB968_960.out
    have hms42_1 := NB968_961.out
    have hms42_2 := NB968_962.out
    refine skip_ (w1 := ?_) (by rfl) rfl ?_ ?_
    rotate_left
    ·
     go_simp
     rfl
    refine hK.out _ _ trivial (fun hHeld => ?_)
    clear hK K
    refine done_ (done_of HT_.out (by kernel_rfl)) ?_
    have hnb43 := NB968_960.out
    have hnc43 := NB960_968.out
    have hnb44 := NB968_961.out
    have hnc44 := NB961_968.out
    have hnb45 := NB968_962.out
    have hnc45 := NB962_968.out
    have hcz46_0 : w40.cell? ⟨gb968, 0, none⟩ = some (.int .i64 0) := (kc_' BK968.out 0).trans rfl
    have hcz46_1 : w40.cell? ⟨gb968, 1, none⟩ = some (.int .i64 0) := (kc_' BK968.out 1).trans rfl
    have hfz46_0 := kf_' BK968.out 0
    have hfz46_1 := kf_' BK968.out 1
    try go_wp2_with (first | ((with_reducible refine xj_' (f := 149) rfl ?_); refine goesL_ (some 59) rfl rfl Try.func149 (by kernel_rfl) rfl #[.agg #[.int .i64 (wrap64 (Int.tdiv (wrap64 ((wrap64 (a0_0 * (wrap64 (Int.tdiv a1_1 t965)))) + (wrap64 (a1_0 * (wrap64 (Int.tdiv a0_1 t965)))))) t967)), .int .i64 (wrap64 (Int.tdiv (wrap64 ((wrap64 (Int.tdiv a0_1 t965)) * a1_1)) t967))]] rfl (by (try simp only [xm_', xc_', xn_']); first | done | rfl | (simp only [xd_', xt_']; rfl)) ?_; (with_reducible refine (spec_IsRatio.calls kj2 (wrap64 (Int.tdiv (wrap64 ((wrap64 (a0_0 * (wrap64 (Int.tdiv a1_1 t965)))) + (wrap64 (a1_0 * (wrap64 (Int.tdiv a0_1 t965)))))) t967)) (wrap64 (Int.tdiv (wrap64 ((wrap64 (Int.tdiv a0_1 t965)) * a1_1)) t967)) true _ A30.out).mono ?_); rintro e w47 ⟨rfl, hb⟩; refine ⟨_, rfl, ?_⟩; have n0_ := sk_' (blk_below (g := gb960) (o := .cells #[.int .i64 a0_0, .int .i64 a0_1] 134 (0, 0)) (by (with_reducible repeat (first | refine kn_' ?_ _ | refine kd_' ?_ | refine ka_' ?_ _)); refine blk_far ?_ NB960_968.out _; (with_reducible repeat (first | refine kn_' ?_ _ | refine kd_' ?_ | refine ka_' ?_ _)); refine blk_far ?_ NB960_968.out _; (with_reducible repeat (first | refine kn_' ?_ _ | refine kd_' ?_ | refine ka_' ?_ _)); exact BK960.out) hb); have n1_ := sk_' (blk_below (g := gb961) (o := .cells #[.int .i64 a1_0, .int .i64 a1_1] 134 (0, 0)) (by (with_reducible repeat (first | refine kn_' ?_ _ | refine kd_' ?_ | refine ka_' ?_ _)); refine blk_far ?_ NB961_968.out _; (with_reducible repeat (first | refine kn_' ?_ _ | refine kd_' ?_ | refine ka_' ?_ _)); refine blk_far ?_ NB961_968.out _; (with_reducible repeat (first | refine kn_' ?_ _ | refine kd_' ?_ | refine ka_' ?_ _)); exact BK961.out) hb); have n2_ := sk_' (blk_below (g := gb962) (o := .cells #[.int .i64 0, .int .i64 0] 134 (0, 0)) (by (with_reducible repeat (first | refine kn_' ?_ _ | refine kd_' ?_ | refine ka_' ?_ _)); refine blk_far ?_ NB962_968.out _; (with_reducible repeat (first | refine kn_' ?_ _ | refine kd_' ?_ | refine ka_' ?_ _)); refine blk_far ?_ NB962_968.out _; (with_reducible repeat (first | refine kn_' ?_ _ | refine kd_' ?_ | refine ka_' ?_ _)); exact BK962.out) hb); have n3_ := sk_' (blk_below (g := gb968) (o := .cells #[.int .i64 (wrap64 (Int.tdiv (wrap64 ((wrap64 (a0_0 * (wrap64 (Int.tdiv a1_1 t965)))) + (wrap64 (a1_0 * (wrap64 (Int.tdiv a0_1 t965)))))) t967)), .int .i64 (wrap64 (Int.tdiv (wrap64 ((wrap64 (Int.tdiv a0_1 t965)) * a1_1)) t967))] 134 (0, 0)) (by (with_reducible repeat (first | refine kn_' ?_ _ | refine kd_' ?_ | refine ka_' ?_ _)); refine blk_put (cs := #[.int .i64 (wrap64 (Int.tdiv (wrap64 ((wrap64 (a0_0 * (wrap64 (Int.tdiv a1_1 t965)))) + (wrap64 (a1_0 * (wrap64 (Int.tdiv a0_1 t965)))))) t967)), .int .i64 0]) ?_ 1 _ rfl; (with_reducible repeat (first | refine kn_' ?_ _ | refine kd_' ?_ | refine ka_' ?_ _)); refine blk_put (cs := #[.int .i64 0, .int .i64 0]) ?_ 0 _ rfl; (with_reducible repeat (first | refine kn_' ?_ _ | refine kd_' ?_ | refine ka_' ?_ _)); exact BK968.out) hb); have n4_ := sk_' (pp_' (by repeat (first | (with_reducible first | exact HB.out | apply pa_' | apply pn_' | apply pd_' | refine pt_' ?_ GE960.out | refine pt_' ?_ GE961.out | refine pt_' ?_ GE962.out | refine pt_' ?_ GE968.out) | exact HB.out)) hb); clear BK960; clear BK961; clear BK962; clear BK968; clear HB; have BK960 := n0_; have BK961 := n1_; have BK962 := n2_; have BK968 := n3_; have HB := n4_; clear n0_ n1_ n2_ n3_ n4_; (try clear hb); (try clear hb2); (try clear hk); (try clear hi); have hcz48_0 : w47.cell? ⟨gb968, 0, none⟩ = some (.int .i64 (wrap64 (Int.tdiv (wrap64 ((wrap64 (a0_0 * (wrap64 (Int.tdiv a1_1 t965)))) + (wrap64 (a1_0 * (wrap64 (Int.tdiv a0_1 t965)))))) t967))) := (kc_' BK968.out 0).trans rfl; have hcz48_1 : w47.cell? ⟨gb968, 1, none⟩ = some (.int .i64 (wrap64 (Int.tdiv (wrap64 ((wrap64 (Int.tdiv a0_1 t965)) * a1_1)) t967))) := (kc_' BK968.out 1).trans rfl; have hfz48_0 := kf_' BK968.out 0; have hfz48_1 := kf_' BK968.out 1; have hcz49_0 : w47.cell? ⟨gb962, 0, none⟩ = some (.int .i64 0) := (kc_' BK962.out 0).trans rfl; have hcz49_1 : w47.cell? ⟨gb962, 1, none⟩ = some (.int .i64 0) := (kc_' BK962.out 1).trans rfl; have hfz49_0 := kf_' BK962.out 0; have hfz49_1 := kf_' BK962.out 1))
    refine bodyPost_ret (results_ct rfl _ _ gb962 134 #[.int .i64 (wrap64 (Int.tdiv (wrap64 ((wrap64 (a0_0 * (wrap64 (Int.tdiv a1_1 t965)))) + (wrap64 (a1_0 * (wrap64 (Int.tdiv a0_1 t965)))))) t967)), .int .i64 (wrap64 (Int.tdiv (wrap64 ((wrap64 (Int.tdiv a0_1 t965)) * a1_1)) t967))] (0, 0) _ rfl (by (with_reducible repeat (first | refine kn_' ?_ _ | refine kd_' ?_ | refine ka_' ?_ _)); refine blk_put (cs := #[.int .i64 (wrap64 (Int.tdiv (wrap64 ((wrap64 (a0_0 * (wrap64 (Int.tdiv a1_1 t965)))) + (wrap64 (a1_0 * (wrap64 (Int.tdiv a0_1 t965)))))) t967)), .int .i64 0]) ?_ 1 _ rfl; (with_reducible repeat (first | refine kn_' ?_ _ | refine kd_' ?_ | refine ka_' ?_ _)); refine blk_put (cs := #[.int .i64 0, .int .i64 0]) ?_ 0 _ rfl; (with_reducible repeat (first | refine kn_' ?_ _ | refine kd_' ?_ | refine ka_' ?_ _)); exact BK962.out) Try.underlying134 rfl (by kernel_rfl)) rfl ?_
    exact ⟨by first | rfl | (simp [errW_none, errW_some] <;> rfl) | (simp [*, errW_none, errW_some] <;> rfl), by repeat (first | (with_reducible first | exact HB.out | apply pa_' | apply pn_' | apply pd_' | refine pt_' ?_ GE960.out | refine pt_' ?_ GE961.out | refine pt_' ?_ GE962.out | refine pt_' ?_ GE968.out) | exact HB.out)⟩
   replace c31 := Bool.eq_false_iff.mpr c31
   subst c31
   rw [if_neg (show ¬ (false = true) by decide)] at H
   simp only [Option.some.injEq, Prod.mk.injEq] at H
   obtain ⟨rfl, rfl, rfl⟩ := H
   have hnb50 := NB960_961.out
   have hnc50 := NB961_960.out
   have hnb51 := NB960_962.out
   have hnc51 := NB962_960.out
   have hcz52_0 : wc.cell? ⟨gb960, 0, none⟩ = some (.int .i64 a0_0) := (kc_' BK960.out 0).trans rfl
   have hcz52_1 : wc.cell? ⟨gb960, 1, none⟩ = some (.int .i64 a0_1) := (kc_' BK960.out 1).trans rfl
   have hfz52_0 := kf_' BK960.out 0
   have hfz52_1 := kf_' BK960.out 1
   have hnb53 := NB961_962.out
   have hnc53 := NB962_961.out
   have hcz54_0 : wc.cell? ⟨gb961, 0, none⟩ = some (.int .i64 a1_0) := (kc_' BK961.out 0).trans rfl
   have hcz54_1 : wc.cell? ⟨gb961, 1, none⟩ = some (.int .i64 a1_1) := (kc_' BK961.out 1).trans rfl
   have hfz54_0 := kf_' BK961.out 0
   have hfz54_1 := kf_' BK961.out 1
   try go_wp2_with (first | ((with_reducible refine xj_' (f := 176) rfl ?_); refine goesL_ (some 24) rfl rfl Try.func176 (by kernel_rfl) rfl #[.int .i64 a0_1, .int .i64 a1_1] rfl (by (try simp only [xm_', xc_', xn_']); first | done | rfl | (simp only [xd_', xt_']; rfl)) ?_; (with_reducible refine (spec_l4Gcd.calls kj2 a0_1 a1_1 t965 _ A25.out).mono ?_); rintro e w' ⟨rfl, ⟨nd, rfl⟩⟩; refine ⟨_, rfl, ?_⟩; (try (rw [drewN_self wc]; generalize hq_ : World.drewN wc _ = wc; have n0_ : Aside0 (wc.heap[gb960]? = some (.cells #[.int .i64 a0_0, .int .i64 a0_1] 134 (0, 0))) := ⟨by rw [← hq_]; exact (by (with_reducible repeat (first | refine kn_' ?_ _ | refine kd_' ?_ | refine ka_' ?_ _)); exact BK960.out)⟩; have n1_ : Aside0 (wc.heap[gb961]? = some (.cells #[.int .i64 a1_0, .int .i64 a1_1] 134 (0, 0))) := ⟨by rw [← hq_]; exact (by (with_reducible repeat (first | refine kn_' ?_ _ | refine kd_' ?_ | refine ka_' ?_ _)); exact BK961.out)⟩; have n2_ : Aside0 (wc.heap[gb962]? = some (.cells #[.int .i64 0, .int .i64 0] 134 (0, 0))) := ⟨by rw [← hq_]; exact (by (with_reducible repeat (first | refine kn_' ?_ _ | refine kd_' ?_ | refine ka_' ?_ _)); exact BK962.out)⟩; have n3_ : Aside0 (Below w.heap.size w wc) := ⟨by rw [← hq_]; exact (by repeat (first | (with_reducible first | exact HB.out | apply pa_' | apply pn_' | apply pd_' | refine pt_' ?_ GE960.out | refine pt_' ?_ GE961.out | refine pt_' ?_ GE962.out) | exact HB.out))⟩; clear BK960 BK961 BK962 HB hq_; have BK960 := n0_; have BK961 := n1_; have BK962 := n2_; have HB := n3_; clear n0_ n1_ n2_ n3_))))
   have n0_ := sk_' (kd_' BK960.out)
   have n1_ := sk_' (kd_' BK961.out)
   have n2_ := sk_' (kd_' BK962.out)
   have n3_ := sk_' (pd_' HB.out)
   clear BK960
   clear BK961
   clear BK962
   clear HB
   have BK960 := n0_
   have BK961 := n1_
   have BK962 := n2_
   have HB := n3_
   clear n0_ n1_ n2_ n3_
   refine start_ (n := 16) (S := fun w' => w'.cell? ⟨gb960, 0, none⟩ = some (.int .i64 a0_0) ∧ w'.cell? ⟨gb960, 1, none⟩ = some (.int .i64 a0_1) ∧ w'.cell? ⟨gb961, 0, none⟩ = some (.int .i64 a1_0) ∧ w'.cell? ⟨gb961, 1, none⟩ = some (.int .i64 a1_1)) (ds := []) #[false, false, false, false, false, false, false, false, false, false, false, false, false, false, false, false] (by kernel_rfl) rfl rfl ⟨(kc_' BK960.out 0).trans rfl, (kc_' BK960.out 1).trans rfl, (kc_' BK961.out 0).trans rfl, (kc_' BK961.out 1).trans rfl⟩ (fun hHeld => ?_); refine with_tabW spec_AddRatio.tab4 spec_AddRatio.bits4 (fun HT_ HW_ => ?_)
   generalize wc.drew = w55 at BK960 BK961 BK962 HB hHeld ⊢
   refine pure_ (i := 0) (N := some 25) (v := ?_) (a' := ?_) #[true, false, false, false, false, false, false, false, false, false, false, false, false, false, false, false] rfl rfl (any_of HT_.out (by kernel_rfl)) (fun _ _ _ h => h) (Or.inl ⟨by rfl, ?_⟩) ?_ ?_
   rotate_left
   ·
    intro w'
    go_simp
    with_reducible rfl
   rotate_left
   ·
    simp only [Act.put, sa_', sz_', sc_', i64_w, i32_w]
    rfl
   refine pure_ (i := 2) (N := some 27) (v := ?_) (a' := ?_) #[true, false, true, false, false, false, false, false, false, false, false, false, false, false, false, false] rfl rfl (any_of HT_.out (by kernel_rfl)) (fun _ _ _ h => h) (Or.inl ⟨by rfl, ?_⟩) ?_ ?_
   rotate_left
   ·
    intro w'
    go_simp
    with_reducible rfl
   rotate_left
   ·
    simp only [Act.put, sa_', sz_', sc_', i64_w, i32_w]
    rfl
   refine pure_ (i := 4) (N := some 29) (v := ?_) (a' := ?_) #[true, false, true, false, true, false, false, false, false, false, false, false, false, false, false, false] rfl rfl (any_of HT_.out (by kernel_rfl)) (fun _ _ _ h => h) (Or.inl ⟨by rfl, ?_⟩) ?_ ?_
   rotate_left
   ·
    intro w'
    go_simp
    with_reducible rfl
   rotate_left
   ·
    simp only [Act.put, sa_', sz_', sc_', i64_w, i32_w]
    rfl
   refine pure_ (i := 7) (N := some 32) (v := ?_) (a' := ?_) #[true, false, true, false, true, false, false, true, false, false, false, false, false, false, false, false] rfl rfl (any_of HT_.out (by kernel_rfl)) (fun _ _ _ h => h) (Or.inl ⟨by rfl, ?_⟩) ?_ ?_
   rotate_left
   ·
    intro w'
    go_simp
    with_reducible rfl
   rotate_left
   ·
    simp only [Act.put, sa_', sz_', sc_', i64_w, i32_w]
    rfl
   refine pure_ (i := 9) (N := some 34) (v := ?_) (a' := ?_) #[true, false, true, false, true, false, false, true, false, true, false, false, false, false, false, false] rfl rfl (any_of HT_.out (by kernel_rfl)) (fun _ _ _ h => h) (Or.inl ⟨by rfl, ?_⟩) ?_ ?_
   rotate_left
   ·
    intro w'
    go_simp
    with_reducible rfl
   rotate_left
   ·
    simp only [Act.put, sa_', sz_', sc_', i64_w, i32_w]
    rfl
   refine pure_ (i := 11) (N := some 36) (v := ?_) (a' := ?_) #[true, false, true, false, true, false, false, true, false, true, false, true, false, false, false, false] rfl rfl (any_of HT_.out (by kernel_rfl)) (fun _ _ _ h => h) (Or.inl ⟨by rfl, ?_⟩) ?_ ?_
   rotate_left
   ·
    intro w'
    go_simp
    with_reducible rfl
   rotate_left
   ·
    simp only [Act.put, sa_', sz_', sc_', i64_w, i32_w]
    rfl
   refine take_ (i := 1) (N := some 26) (v := ?_) (a' := ?_) #[true, true, true, false, true, false, false, true, false, true, false, true, false, false, false, false] rfl rfl (take_ofW HT_.out HW_.out (by kernel_rfl)) (fun _ _ _ h => h) (Or.inl ⟨by rfl, ?_⟩) hHeld ?_ ?_
   rotate_left
   ·
    rintro w' ⟨s0, s1, s2, s3⟩
    go_simp
    with_reducible rfl
   rotate_left
   ·
    simp only [Act.put, sa_', sz_', sc_', i64_w, i32_w]
    rfl
   refine take_ (i := 3) (N := some 28) (v := ?_) (a' := ?_) #[true, true, true, true, true, false, false, true, false, true, false, true, false, false, false, false] rfl rfl (take_ofW HT_.out HW_.out (by kernel_rfl)) (fun _ _ _ h => h) (Or.inl ⟨by rfl, ?_⟩) hHeld ?_ ?_
   rotate_left
   ·
    rintro w' ⟨s0, s1, s2, s3⟩
    go_simp
    with_reducible rfl
   rotate_left
   ·
    simp only [Act.put, sa_', sz_', sc_', i64_w, i32_w]
    rfl
   refine pure_ (i := 5) (N := some 30) (v := ?_) (a' := ?_) #[true, true, true, true, true, true, false, true, false, true, false, true, false, false, false, false] rfl rfl (any_of HT_.out (by kernel_rfl)) (fun _ _ _ h => h) (Or.inl ⟨by rfl, ?_⟩) ?_ ?_
   rotate_left
   ·
    intro w'
    go_simp
    with_reducible rfl
   rotate_left
   ·
    simp only [Act.put, sa_', sz_', sc_', i64_w, i32_w]
    rfl
   refine pure_ (i := 6) (N := some 31) (v := ?_) (a' := ?_) #[true, true, true, true, true, true, true, true, false, true, false, true, false, false, false, false] rfl rfl (any_of HT_.out (by kernel_rfl)) (fun _ _ _ h => h) (Or.inl ⟨by rfl, ?_⟩) ?_ ?_
   rotate_left
   ·
    intro w'
    go_simp
    with_reducible rfl
   rotate_left
   ·
    simp only [Act.put, sa_', sz_', sc_', i64_w, i32_w]
    rfl
   refine take_ (i := 8) (N := some 33) (v := ?_) (a' := ?_) #[true, true, true, true, true, true, true, true, true, true, false, true, false, false, false, false] rfl rfl (take_ofW HT_.out HW_.out (by kernel_rfl)) (fun _ _ _ h => h) (Or.inl ⟨by rfl, ?_⟩) hHeld ?_ ?_
   rotate_left
   ·
    rintro w' ⟨s0, s1, s2, s3⟩
    go_simp
    with_reducible rfl
   rotate_left
   ·
    simp only [Act.put, sa_', sz_', sc_', i64_w, i32_w]
    rfl
   refine take_ (i := 10) (N := some 35) (v := ?_) (a' := ?_) #[true, true, true, true, true, true, true, true, true, true, true, true, false, false, false, false] rfl rfl (take_ofW HT_.out HW_.out (by kernel_rfl)) (fun _ _ _ h => h) (Or.inl ⟨by rfl, ?_⟩) hHeld ?_ ?_
   rotate_left
   ·
    rintro w' ⟨s0, s1, s2, s3⟩
    go_simp
    with_reducible rfl
   rotate_left
   ·
    simp only [Act.put, sa_', sz_', sc_', i64_w, i32_w]
    rfl
   refine pure_ (i := 12) (N := some 37) (v := ?_) (a' := ?_) #[true, true, true, true, true, true, true, true, true, true, true, true, true, false, false, false] rfl rfl (any_of HT_.out (by kernel_rfl)) (fun _ _ _ h => h) (Or.inl ⟨by rfl, ?_⟩) ?_ ?_
   rotate_left
   ·
    intro w'
    go_simp
    with_reducible rfl
   rotate_left
   ·
    simp only [Act.put, sa_', sz_', sc_', i64_w, i32_w]
    rfl
   refine pure_ (i := 13) (N := some 38) (v := ?_) (a' := ?_) #[true, true, true, true, true, true, true, true, true, true, true, true, true, true, false, false] rfl rfl (any_of HT_.out (by kernel_rfl)) (fun _ _ _ h => h) (Or.inl ⟨by rfl, ?_⟩) ?_ ?_
   rotate_left
   ·
    intro w'
    go_simp
    with_reducible rfl
   rotate_left
   ·
    simp only [Act.put, sa_', sz_', sc_', i64_w, i32_w]
    rfl
   refine pure_ (i := 14) (N := some 39) (v := ?_) (a' := ?_) #[true, true, true, true, true, true, true, true, true, true, true, true, true, true, true, false] rfl rfl (any_of HT_.out (by kernel_rfl)) (fun _ _ _ h => h) (Or.inl ⟨by rfl, ?_⟩) ?_ ?_
   rotate_left
   ·
    intro w'
    go_simp
    with_reducible rfl
   rotate_left
   ·
    simp only [Act.put, sa_', sz_', sc_', i64_w, i32_w]
    rfl
   refine pure_ (i := 15) (N := some 7) (v := ?_) (a' := ?_) #[true, true, true, true, true, true, true, true, true, true, true, true, true, true, true, true] rfl rfl (any_of HT_.out (by kernel_rfl)) (fun _ _ _ h => h) (Or.inl ⟨by rfl, ?_⟩) ?_ ?_
   rotate_left
   ·
    intro w'
    go_simp
    with_reducible rfl
   rotate_left
   ·
    simp only [Act.put, sa_', sz_', sc_', i64_w, i32_w]
    rfl
   refine done_ (done_of HT_.out (by kernel_rfl)) ?_
   try go_wp2
   have n0_ := sk_' (kd_' BK960.out)
   have n1_ := sk_' (kd_' BK961.out)
   have n2_ := sk_' (kd_' BK962.out)
   have n3_ := sk_' (pd_' HB.out)
   clear BK960
   clear BK961
   clear BK962
   clear HB
   have BK960 := n0_
   have BK961 := n1_
   have BK962 := n2_
   have HB := n3_
   clear n0_ n1_ n2_ n3_
   refine start_ (n := 8) (S := fun w' => w'.cell? ⟨gb960, 0, none⟩ = some (.int .i64 a0_0) ∧ w'.cell? ⟨gb960, 1, none⟩ = some (.int .i64 a0_1) ∧ w'.cell? ⟨gb961, 0, none⟩ = some (.int .i64 a1_0) ∧ w'.cell? ⟨gb961, 1, none⟩ = some (.int .i64 a1_1)) (ds := []) #[false, false, false, false, false, false, false, false] (by kernel_rfl) rfl rfl ⟨(kc_' BK960.out 0).trans rfl, (kc_' BK960.out 1).trans rfl, (kc_' BK961.out 0).trans rfl, (kc_' BK961.out 1).trans rfl⟩ (fun hHeld => ?_); refine with_tabW spec_AddRatio.tab5 spec_AddRatio.bits5 (fun HT_ HW_ => ?_)
   generalize w55.drew = w56 at BK960 BK961 BK962 HB hHeld ⊢
   refine pure_ (i := 0) (N := some 40) (v := ?_) (a' := ?_) #[true, false, false, false, false, false, false, false] rfl rfl (any_of HT_.out (by kernel_rfl)) (fun _ _ _ h => h) (Or.inl ⟨by rfl, ?_⟩) ?_ ?_
   rotate_left
   ·
    intro w'
    go_simp
    with_reducible rfl
   rotate_left
   ·
    simp only [Act.put, sa_', sz_', sc_', i64_w, i32_w]
    rfl
   refine pure_ (i := 2) (N := some 42) (v := ?_) (a' := ?_) #[true, false, true, false, false, false, false, false] rfl rfl (any_of HT_.out (by kernel_rfl)) (fun _ _ _ h => h) (Or.inl ⟨by rfl, ?_⟩) ?_ ?_
   rotate_left
   ·
    intro w'
    go_simp
    with_reducible rfl
   rotate_left
   ·
    simp only [Act.put, sa_', sz_', sc_', i64_w, i32_w]
    rfl
   refine pure_ (i := 4) (N := some 44) (v := ?_) (a' := ?_) #[true, false, true, false, true, false, false, false] rfl rfl (any_of HT_.out (by kernel_rfl)) (fun _ _ _ h => h) (Or.inl ⟨by rfl, ?_⟩) ?_ ?_
   rotate_left
   ·
    intro w'
    go_simp
    with_reducible rfl
   rotate_left
   ·
    simp only [Act.put, sa_', sz_', sc_', i64_w, i32_w]
    rfl
   refine take_ (i := 1) (N := some 41) (v := ?_) (a' := ?_) #[true, true, true, false, true, false, false, false] rfl rfl (take_ofW HT_.out HW_.out (by kernel_rfl)) (fun _ _ _ h => h) (Or.inl ⟨by rfl, ?_⟩) hHeld ?_ ?_
   rotate_left
   ·
    rintro w' ⟨s0, s1, s2, s3⟩
    go_simp
    with_reducible rfl
   rotate_left
   ·
    simp only [Act.put, sa_', sz_', sc_', i64_w, i32_w]
    rfl
   refine pure_ (i := 3) (N := some 43) (v := ?_) (a' := ?_) #[true, true, true, true, true, false, false, false] rfl rfl (any_of HT_.out (by kernel_rfl)) (fun _ _ _ h => h) (Or.inl ⟨by rfl, ?_⟩) ?_ ?_
   rotate_left
   ·
    intro w'
    go_simp
    with_reducible rfl
   rotate_left
   ·
    simp only [Act.put, sa_', sz_', sc_', i64_w, i32_w]
    rfl
   refine take_ (i := 5) (N := some 45) (v := ?_) (a' := ?_) #[true, true, true, true, true, true, false, false] rfl rfl (take_ofW HT_.out HW_.out (by kernel_rfl)) (fun _ _ _ h => h) (Or.inl ⟨by rfl, ?_⟩) hHeld ?_ ?_
   rotate_left
   ·
    rintro w' ⟨s0, s1, s2, s3⟩
    go_simp
    with_reducible rfl
   rotate_left
   ·
    simp only [Act.put, sa_', sz_', sc_', i64_w, i32_w]
    rfl
   refine pure_ (i := 6) (N := some 46) (v := ?_) (a' := ?_) #[true, true, true, true, true, true, true, false] rfl rfl (any_of HT_.out (by kernel_rfl)) (fun _ _ _ h => h) (Or.inl ⟨by rfl, ?_⟩) ?_ ?_
   rotate_left
   ·
    intro w'
    go_simp
    with_reducible rfl
   rotate_left
   ·
    simp only [Act.put, sa_', sz_', sc_', i64_w, i32_w]
    rfl
   refine pure_ (i := 7) (N := some 8) (v := ?_) (a' := ?_) #[true, true, true, true, true, true, true, true] rfl rfl (any_of HT_.out (by kernel_rfl)) (fun _ _ _ h => h) (Or.inl ⟨by rfl, ?_⟩) ?_ ?_
   rotate_left
   ·
    intro w'
    go_simp
    with_reducible rfl
   rotate_left
   ·
    simp only [Act.put, sa_', sz_', sc_', i64_w, i32_w]
    rfl
   refine done_ (done_of HT_.out (by kernel_rfl)) ?_
   try go_wp2_with (first | ((with_reducible refine xj_' (f := 177) rfl ?_); refine goesL_ (some 48) rfl rfl Try.func177 (by kernel_rfl) rfl #[.int .i64 (wrap64 ((wrap64 (a0_0 * (wrap64 (Int.tdiv a1_1 t965)))) + (wrap64 (a1_0 * (wrap64 (Int.tdiv a0_1 t965))))))] rfl (by (try simp only [xm_', xc_', xn_']); first | done | rfl | (simp only [xd_', xt_']; rfl)) ?_; (with_reducible refine (spec_l4Abs.calls (wrap64 ((wrap64 (a0_0 * (wrap64 (Int.tdiv a1_1 t965)))) + (wrap64 (a1_0 * (wrap64 (Int.tdiv a0_1 t965)))))) t966 _ A27.out).mono ?_); rintro e w' ⟨rfl, ⟨nd, rfl⟩⟩; refine ⟨_, rfl, ?_⟩; (try (rw [drewN_self w56]; generalize hq_ : World.drewN w56 _ = w56; have n0_ : Aside0 (w56.heap[gb960]? = some (.cells #[.int .i64 a0_0, .int .i64 a0_1] 134 (0, 0))) := ⟨by rw [← hq_]; exact (by (with_reducible repeat (first | refine kn_' ?_ _ | refine kd_' ?_ | refine ka_' ?_ _)); exact BK960.out)⟩; have n1_ : Aside0 (w56.heap[gb961]? = some (.cells #[.int .i64 a1_0, .int .i64 a1_1] 134 (0, 0))) := ⟨by rw [← hq_]; exact (by (with_reducible repeat (first | refine kn_' ?_ _ | refine kd_' ?_ | refine ka_' ?_ _)); exact BK961.out)⟩; have n2_ : Aside0 (w56.heap[gb962]? = some (.cells #[.int .i64 0, .int .i64 0] 134 (0, 0))) := ⟨by rw [← hq_]; exact (by (with_reducible repeat (first | refine kn_' ?_ _ | refine kd_' ?_ | refine ka_' ?_ _)); exact BK962.out)⟩; have n3_ : Aside0 (Below w.heap.size w w56) := ⟨by rw [← hq_]; exact (by repeat (first | (with_reducible first | exact HB.out | apply pa_' | apply pn_' | apply pd_' | refine pt_' ?_ GE960.out | refine pt_' ?_ GE961.out | refine pt_' ?_ GE962.out) | exact HB.out))⟩; clear BK960 BK961 BK962 HB hq_; have BK960 := n0_; have BK961 := n1_; have BK962 := n2_; have HB := n3_; clear n0_ n1_ n2_ n3_))) | ((with_reducible refine xj_' (f := 176) rfl ?_); refine goesL_ (some 50) rfl rfl Try.func176 (by kernel_rfl) rfl #[.int .i64 t966, .int .i64 (wrap64 ((wrap64 (Int.tdiv a0_1 t965)) * a1_1))] rfl (by (try simp only [xm_', xc_', xn_']); first | done | rfl | (simp only [xd_', xt_']; rfl)) ?_; (with_reducible refine (spec_l4Gcd.calls kj2 t966 (wrap64 ((wrap64 (Int.tdiv a0_1 t965)) * a1_1)) t967 _ A28.out).mono ?_); rintro e w' ⟨rfl, ⟨nd, rfl⟩⟩; refine ⟨_, rfl, ?_⟩; (try (rw [drewN_self w56]; generalize hq_ : World.drewN w56 _ = w56; have n0_ : Aside0 (w56.heap[gb960]? = some (.cells #[.int .i64 a0_0, .int .i64 a0_1] 134 (0, 0))) := ⟨by rw [← hq_]; exact (by (with_reducible repeat (first | refine kn_' ?_ _ | refine kd_' ?_ | refine ka_' ?_ _)); exact BK960.out)⟩; have n1_ : Aside0 (w56.heap[gb961]? = some (.cells #[.int .i64 a1_0, .int .i64 a1_1] 134 (0, 0))) := ⟨by rw [← hq_]; exact (by (with_reducible repeat (first | refine kn_' ?_ _ | refine kd_' ?_ | refine ka_' ?_ _)); exact BK961.out)⟩; have n2_ : Aside0 (w56.heap[gb962]? = some (.cells #[.int .i64 0, .int .i64 0] 134 (0, 0))) := ⟨by rw [← hq_]; exact (by (with_reducible repeat (first | refine kn_' ?_ _ | refine kd_' ?_ | refine ka_' ?_ _)); exact BK962.out)⟩; have n3_ : Aside0 (Below w.heap.size w w56) := ⟨by rw [← hq_]; exact (by repeat (first | (with_reducible first | exact HB.out | apply pa_' | apply pn_' | apply pd_' | refine pt_' ?_ GE960.out | refine pt_' ?_ GE961.out | refine pt_' ?_ GE962.out) | exact HB.out))⟩; clear BK960 BK961 BK962 HB hq_; have BK960 := n0_; have BK961 := n1_; have BK962 := n2_; have HB := n3_; clear n0_ n1_ n2_ n3_))))
   have n0_ := sk_' (kd_' BK960.out)
   have n1_ := sk_' (kd_' BK961.out)
   have n2_ := sk_' (kd_' BK962.out)
   have n3_ := sk_' (pd_' HB.out)
   clear BK960
   clear BK961
   clear BK962
   clear HB
   have BK960 := n0_
   have BK961 := n1_
   have BK962 := n2_
   have HB := n3_
   clear n0_ n1_ n2_ n3_
   refine start_ (n := 9) (S := fun w' => True) (ds := []) #[false, false, false, false, false, false, false, false, false] (by kernel_rfl) rfl rfl trivial (fun hHeld => ?_); refine with_tabW spec_AddRatio.tab7 spec_AddRatio.bits7 (fun HT_ HW_ => ?_)
   generalize w56.drew = w57 at BK960 BK961 BK962 HB hHeld ⊢
   refine pure_ (i := 0) (N := some 51) (v := ?_) (a' := ?_) #[true, false, false, false, false, false, false, false, false] rfl rfl (any_of HT_.out (by kernel_rfl)) (fun _ _ _ h => h) (Or.inl ⟨by rfl, ?_⟩) ?_ ?_
   rotate_left
   ·
    intro w'
    go_simp
    with_reducible rfl
   rotate_left
   ·
    simp only [Act.put, sa_', sz_', sc_', i64_w, i32_w]
    rfl
   refine pure_ (i := 1) (N := some 52) (v := ?_) (a' := ?_) #[true, true, false, false, false, false, false, false, false] rfl rfl (any_of HT_.out (by kernel_rfl)) (fun _ _ _ h => h) (Or.inl ⟨by rfl, ?_⟩) ?_ ?_
   rotate_left
   ·
    intro w'
    go_simp
    with_reducible rfl
   rotate_left
   ·
    simp only [Act.put, sa_', sz_', sc_', i64_w, i32_w]
    rfl
   refine pure_ (i := 2) (N := some 53) (v := ?_) (a' := ?_) #[true, true, true, false, false, false, false, false, false] rfl rfl (any_of HT_.out (by kernel_rfl)) (fun _ _ _ h => h) (Or.inl ⟨by rfl, ?_⟩) ?_ ?_
   rotate_left
   ·
    intro w'
    go_simp
    with_reducible rfl
   rotate_left
   ·
    simp only [Act.put, sa_', sz_', sc_', i64_w, i32_w]
    rfl
   refine pure_ (i := 3) (N := some 54) (v := ?_) (a' := ?_) #[true, true, true, true, false, false, false, false, false] rfl rfl (any_of HT_.out (by kernel_rfl)) (fun _ _ _ h => h) (Or.inl ⟨by rfl, ?_⟩) ?_ ?_
   rotate_left
   ·
    intro w'
    go_simp
    with_reducible rfl
   rotate_left
   ·
    simp only [Act.put, sa_', sz_', sc_', i64_w, i32_w]
    rfl
   refine pure_ (i := 4) (N := some 55) (v := ?_) (a' := ?_) #[true, true, true, true, true, false, false, false, false] rfl rfl (any_of HT_.out (by kernel_rfl)) (fun _ _ _ h => h) (Or.inl ⟨by rfl, ?_⟩) ?_ ?_
   rotate_left
   ·
    intro w'
    go_simp
    with_reducible rfl
   rotate_left
   ·
    simp only [Act.put, sa_', sz_', sc_', i64_w, i32_w]
    rfl
   refine pure_ (i := 5) (N := some 56) (v := ?_) (a' := ?_) #[true, true, true, true, true, true, false, false, false] rfl rfl (any_of HT_.out (by kernel_rfl)) (fun _ _ _ h => h) (Or.inl ⟨by rfl, ?_⟩) ?_ ?_
   rotate_left
   ·
    intro w'
    go_simp
    with_reducible rfl
   rotate_left
   ·
    simp only [Act.put, sa_', sz_', sc_', i64_w, i32_w]
    rfl
   refine pure_ (i := 6) (N := some 57) (v := ?_) (a' := ?_) #[true, true, true, true, true, true, true, false, false] rfl rfl (any_of HT_.out (by kernel_rfl)) (fun _ _ _ h => h) (Or.inl ⟨by rfl, ?_⟩) ?_ ?_
   rotate_left
   ·
    intro w'
    go_simp
    with_reducible rfl
   rotate_left
   ·
    simp only [Act.put, sa_', sz_', sc_', i64_w, i32_w]
    rfl
   refine one_ (i := 7) (N := some 10) #[true, true, true, true, true, true, true, true, false] rfl rfl (one_of HT_.out (by kernel_rfl)) (by decide) (fun K hK => ?_)
   refine box_step ?hg (N := 10) ?hd (cs := #[.int .i64 0, .int .i64 0]) (t := 134) ?hr ?_; (case hd => rfl); (case hg => rfl); (case hr => first | (go_simp; done) | (go_simp; rfl))
   intro gb968 hg w58 hbox hb
   have n0_ := sk_' (blk_below (g := gb960) (o := .cells #[.int .i64 a0_0, .int .i64 a0_1] 134 (0, 0)) (km BK960) hb)
   have n1_ := sk_' (blk_below (g := gb961) (o := .cells #[.int .i64 a1_0, .int .i64 a1_1] 134 (0, 0)) (km BK961) hb)
   have n2_ := sk_' (blk_below (g := gb962) (o := .cells #[.int .i64 0, .int .i64 0] 134 (0, 0)) (km BK962) hb)
   have n3_ := sk_' (pp_' (bm HB) hb)
   have n4_ := sk_' (hbox)
   have n5_ := sk_' ((by rw [hg]; exact (ps_' (bm HB)) : w.heap.size ≤ gb968))
   have n6_ := sk_' ((by rw [hg]; exact (ps_' (bm HB)) : w.heap.size ≤ gb968))
   have n7_ := sk_' ((by rw [hg]; exact Nat.ne_of_lt (blk_lt (g := gb960) (o := .cells #[.int .i64 a0_0, .int .i64 a0_1] 134 (0, 0)) (km BK960)) : gb960 ≠ gb968))
   have n8_ := sk_' ((by rw [hg]; exact Nat.ne_of_gt (blk_lt (g := gb960) (o := .cells #[.int .i64 a0_0, .int .i64 a0_1] 134 (0, 0)) (km BK960)) : gb968 ≠ gb960))
   have n9_ := sk_' ((by rw [hg]; exact Nat.ne_of_lt (blk_lt (g := gb961) (o := .cells #[.int .i64 a1_0, .int .i64 a1_1] 134 (0, 0)) (km BK961)) : gb961 ≠ gb968))
   have n10_ := sk_' ((by rw [hg]; exact Nat.ne_of_gt (blk_lt (g := gb961) (o := .cells #[.int .i64 a1_0, .int .i64 a1_1] 134 (0, 0)) (km BK961)) : gb968 ≠ gb961))
   have n11_ := sk_' ((by rw [hg]; exact Nat.ne_of_lt (blk_lt (g := gb962) (o := .cells #[.int .i64 0, .int .i64 0] 134 (0, 0)) (km BK962)) : gb962 ≠ gb968))
   have n12_ := sk_' ((by rw [hg]; exact Nat.ne_of_gt (blk_lt (g := gb962) (o := .cells #[.int .i64 0, .int .i64 0] 134 (0, 0)) (km BK962)) : gb968 ≠ gb962))
   clear BK960
   clear BK961
   clear BK962
   clear HB
   have BK960 := n0_
   have BK961 := n1_
   have BK962 := n2_
   have HB := n3_
   have BK968 := n4_
   have GW968 := n5_
   have GE968 := n6_
   have NB960_968 := n7_
   have NB968_960 := n8_
   have NB961_968 := n9_
   have NB968_961 := n10_
   have NB962_968 := n11_
   have NB968_962 := n12_
   clear n0_ n1_ n2_ n3_ n4_ n5_ n6_ n7_ n8_ n9_ n10_ n11_ n12_
   clear hb hbox hg
   refine hK.out _ _ trivial (fun hHeld => ?_)
   clear hK K
   refine norm_ (a' := ?_) ?_ ?_
   rotate_left
   ·
    show Act.put _ (some 10) _ = _
    simp only [Act.put, sa_', sz_', sc_', i64_w, i32_w]
    rfl
   refine one_ (i := 8) (N := none) #[true, true, true, true, true, true, true, true, true] rfl rfl (one_of HT_.out (by kernel_rfl)) (by decide) (fun K hK => ?_)
   have hs59 : w58.cell? ⟨gb968, 0, none⟩ = some (.int .i64 0) := (kc_' BK968.out 0).trans rfl
   have hfs59 := kf_' BK968.out 0
   have hns59_0 := NB960_968.out
   have hns59_1 := NB961_968.out
   have hns59_2 := NB962_968.out
   have hms59_0 := NB968_960.out
   have hms59_1 := NB968_961.out
   have hms59_2 := NB968_962.out
   have hs60 : w58.cell? ⟨gb968, 1, none⟩ = some (.int .i64 0) := (kc_' BK968.out 1).trans rfl
   have hfs60 := kf_' BK968.out 1
   have hns60_0 := NB960_968.out
   have hns60_1 := NB961_968.out
   have hns60_2 := NB962_968.out
   have hms60_0 := NB968_960.out
   have hms60_1 := NB968_961.out
   have hms60_2 := NB968_962.out
   refine skip_ (w1 := ?_) (by rfl) rfl ?_ ?_
   rotate_left
   ·
    go_simp
    rfl
   refine hK.out _ _ trivial (fun hHeld => ?_)
   clear hK K
   refine done_ (done_of HT_.out (by kernel_rfl)) ?_
   have hnb61 := NB968_960.out
   have hnc61 := NB960_968.out
   have hnb62 := NB968_961.out
   have hnc62 := NB961_968.out
   have hnb63 := NB968_962.out
   have hnc63 := NB962_968.out
   have hcz64_0 : w58.cell? ⟨gb968, 0, none⟩ = some (.int .i64 0) := (kc_' BK968.out 0).trans rfl
   have hcz64_1 : w58.cell? ⟨gb968, 1, none⟩ = some (.int .i64 0) := (kc_' BK968.out 1).trans rfl
   have hfz64_0 := kf_' BK968.out 0
   have hfz64_1 := kf_' BK968.out 1
   try go_wp2_with (first | ((with_reducible refine xj_' (f := 149) rfl ?_); refine goesL_ (some 59) rfl rfl Try.func149 (by kernel_rfl) rfl #[.agg #[.int .i64 (wrap64 (Int.tdiv (wrap64 ((wrap64 (a0_0 * (wrap64 (Int.tdiv a1_1 t965)))) + (wrap64 (a1_0 * (wrap64 (Int.tdiv a0_1 t965)))))) t967)), .int .i64 (wrap64 (Int.tdiv (wrap64 ((wrap64 (Int.tdiv a0_1 t965)) * a1_1)) t967))]] rfl (by (try simp only [xm_', xc_', xn_']); first | done | rfl | (simp only [xd_', xt_']; rfl)) ?_; (with_reducible refine (spec_IsRatio.calls kj2 (wrap64 (Int.tdiv (wrap64 ((wrap64 (a0_0 * (wrap64 (Int.tdiv a1_1 t965)))) + (wrap64 (a1_0 * (wrap64 (Int.tdiv a0_1 t965)))))) t967)) (wrap64 (Int.tdiv (wrap64 ((wrap64 (Int.tdiv a0_1 t965)) * a1_1)) t967)) false _ A30.out).mono ?_); rintro e w65 ⟨rfl, hb⟩; refine ⟨_, rfl, ?_⟩; have n0_ := sk_' (blk_below (g := gb960) (o := .cells #[.int .i64 a0_0, .int .i64 a0_1] 134 (0, 0)) (by (with_reducible repeat (first | refine kn_' ?_ _ | refine kd_' ?_ | refine ka_' ?_ _)); refine blk_far ?_ NB960_968.out _; (with_reducible repeat (first | refine kn_' ?_ _ | refine kd_' ?_ | refine ka_' ?_ _)); refine blk_far ?_ NB960_968.out _; (with_reducible repeat (first | refine kn_' ?_ _ | refine kd_' ?_ | refine ka_' ?_ _)); exact BK960.out) hb); have n1_ := sk_' (blk_below (g := gb961) (o := .cells #[.int .i64 a1_0, .int .i64 a1_1] 134 (0, 0)) (by (with_reducible repeat (first | refine kn_' ?_ _ | refine kd_' ?_ | refine ka_' ?_ _)); refine blk_far ?_ NB961_968.out _; (with_reducible repeat (first | refine kn_' ?_ _ | refine kd_' ?_ | refine ka_' ?_ _)); refine blk_far ?_ NB961_968.out _; (with_reducible repeat (first | refine kn_' ?_ _ | refine kd_' ?_ | refine ka_' ?_ _)); exact BK961.out) hb); have n2_ := sk_' (blk_below (g := gb962) (o := .cells #[.int .i64 0, .int .i64 0] 134 (0, 0)) (by (with_reducible repeat (first | refine kn_' ?_ _ | refine kd_' ?_ | refine ka_' ?_ _)); refine blk_far ?_ NB962_968.out _; (with_reducible repeat (first | refine kn_' ?_ _ | refine kd_' ?_ | refine ka_' ?_ _)); refine blk_far ?_ NB962_968.out _; (with_reducible repeat (first | refine kn_' ?_ _ | refine kd_' ?_ | refine ka_' ?_ _)); exact BK962.out) hb); have n3_ := sk_' (blk_below (g := gb968) (o := .cells #[.int .i64 (wrap64 (Int.tdiv (wrap64 ((wrap64 (a0_0 * (wrap64 (Int.tdiv a1_1 t965)))) + (wrap64 (a1_0 * (wrap64 (Int.tdiv a0_1 t965)))))) t967)), .int .i64 (wrap64 (Int.tdiv (wrap64 ((wrap64 (Int.tdiv a0_1 t965)) * a1_1)) t967))] 134 (0, 0)) (by (with_reducible repeat (first | refine kn_' ?_ _ | refine kd_' ?_ | refine ka_' ?_ _)); refine blk_put (cs := #[.int .i64 (wrap64 (Int.tdiv (wrap64 ((wrap64 (a0_0 * (wrap64 (Int.tdiv a1_1 t965)))) + (wrap64 (a1_0 * (wrap64 (Int.tdiv a0_1 t965)))))) t967)), .int .i64 0]) ?_ 1 _ rfl; (with_reducible repeat (first | refine kn_' ?_ _ | refine kd_' ?_ | refine ka_' ?_ _)); refine blk_put (cs := #[.int .i64 0, .int .i64 0]) ?_ 0 _ rfl; (with_reducible repeat (first | refine kn_' ?_ _ | refine kd_' ?_ | refine ka_' ?_ _)); exact BK968.out) hb); have n4_ := sk_' (pp_' (by repeat (first | (with_reducible first | exact HB.out | apply pa_' | apply pn_' | apply pd_' | refine pt_' ?_ GE960.out | refine pt_' ?_ GE961.out | refine pt_' ?_ GE962.out | refine pt_' ?_ GE968.out) | exact HB.out)) hb); clear BK960; clear BK961; clear BK962; clear BK968; clear HB; have BK960 := n0_; have BK961 := n1_; have BK962 := n2_; have BK968 := n3_; have HB := n4_; clear n0_ n1_ n2_ n3_ n4_; (try clear hb); (try clear hb2); (try clear hk); (try clear hi); have hcz66_0 : w65.cell? ⟨gb962, 0, none⟩ = some (.int .i64 0) := (kc_' BK962.out 0).trans rfl; have hcz66_1 : w65.cell? ⟨gb962, 1, none⟩ = some (.int .i64 0) := (kc_' BK962.out 1).trans rfl; have hfz66_0 := kf_' BK962.out 0; have hfz66_1 := kf_' BK962.out 1))
   refine bodyPost_ret (results_ct rfl _ _ gb962 134 #[.int .i64 0, .int .i64 0] (0, 0) _ rfl (by (with_reducible repeat (first | refine kn_' ?_ _ | refine kd_' ?_ | refine ka_' ?_ _)); refine blk_put (cs := #[.int .i64 0, .int .i64 0]) ?_ 1 _ rfl; (with_reducible repeat (first | refine kn_' ?_ _ | refine kd_' ?_ | refine ka_' ?_ _)); refine blk_put (cs := #[.int .i64 0, .int .i64 0]) ?_ 0 _ rfl; (with_reducible repeat (first | refine kn_' ?_ _ | refine kd_' ?_ | refine ka_' ?_ _)); exact BK962.out) Try.underlying134 rfl (by kernel_rfl)) rfl ?_
   exact ⟨by first | rfl | (simp [errW_none, errW_some] <;> rfl) | (simp [*, errW_none, errW_some] <;> rfl), by repeat (first | (with_reducible first | exact HB.out | apply pa_' | apply pn_' | apply pd_' | refine pt_' ?_ GE960.out | refine pt_' ?_ GE961.out | refine pt_' ?_ GE962.out | refine pt_' ?_ GE968.out) | exact HB.out)⟩
end Go.Proofs.Ytiophiipmgpaeaa.F

namespace Go.Proofs.Ytiophiipmgpaeaa.F
open Go.RowKit Go.Proofs.YtiophiipmgpaeaaW.PrintWords Go.Proofs.YtiophiipmgpaeaaW.PrintLast Go.Proofs.YtiophiipmgpaeaaW.PrintMore
attribute [local go_sem] max2_int min2_int max_two min_two max_three min_three max_four min_four
set_option linter.unusedVariables false
set_option linter.unusedSimpArgs false
mutual
def spec_TimeOf.j0 : Nat → List (S140) → Int → Bool → Option (Int × Int × Bool)
 | 0, _, _, _ => none
 | k + 1, x0, x1, x20 => if x20 = true then (some (0, 0, false)) else (spec_TimeOf.l0 k x0 x1 0 0 1)
def spec_TimeOf.l0 : Nat → List (S140) → Int → Int → Int → Int → Option (Int × Int × Bool)
 | 0, _, _, _, _, _ => none
 | k + 1, x0, x1, x7, x974000, x974001 => if x7 < (x0.length : Int) then (if 0 ≤ x7 then (spec_TimeOf.j2 k x0 x1 x7 (decide (((rd_T140 x0 x7).f0) < x1)) x974000 x974001) else (none)) else (spec_TimeOf.j2 k x0 x1 x7 false x974000 x974001)
def spec_TimeOf.j2 : Nat → List (S140) → Int → Int → Bool → Int → Int → Option (Int × Int × Bool)
 | 0, _, _, _, _, _, _ => none
 | k + 1, x0, x1, x7, x35, x974000, x974001 => if x35 = true then (if (wrap64 (x7 + 1)) < (x0.length : Int) then (if 0 ≤ (wrap64 (x7 + 1)) then ((spec_Min.f x1 ((rd_T140 x0 (wrap64 (x7 + 1))).f0)).bind fun t976 => (spec_TimeOf.j3 k x0 x1 x7 t976 x974000 x974001)) else (none)) else (spec_TimeOf.j3 k x0 x1 x7 x1 x974000 x974001)) else (some (x974000, x974001, true))
def spec_TimeOf.j3 : Nat → List (S140) → Int → Int → Int → Int → Int → Option (Int × Int × Bool)
 | 0, _, _, _, _, _, _ => none
 | k + 1, x0, x1, x7, x8, x974000, x974001 => if 0 ≤ x7 then (if x7 < (x0.length : Int) then ((spec_MakeRatio.f k (wrap64 ((wrap64 (x8 - ((rd_T140 x0 x7).f0))) * 5000)) ((rd_T140 x0 x7).f1)).bind fun bt979 => ((spec_AddRatio.f k x974000 x974001 bt979.1 bt979.2.1).bind fun bt983 => (if bt983.2.2 = true then (spec_TimeOf.l0 k x0 x1 (wrap64 (x7 + 1)) bt983.1 bt983.2.1) else (some (0, 0, false))))) else (none)) else (none)
end
def spec_TimeOf.f (k : Nat) (l0 : List (S140)) (a1 : Int) : Option (Int × Int × Bool) := (spec_IsTempo.f k l0).bind fun t971 => (if t971 = true then ((spec_l1In.f a1 0 2000).bind fun t972 => (spec_TimeOf.j0 k l0 a1 (!t972))) else (spec_TimeOf.j0 k l0 a1 true))
def spec_TimeOf.T10 : Bool × List (List Nat × List Nat) := (true, [([], []), ([], []), ([], []), ([1, 2], [1, 2]), ([3], [3]), ([4], [4]), ([0, 5], [0, 5]), ([6], [6]), ([], []), ([], []), ([8, 9], [8, 9]), ([10], [10]), ([11], [11]), ([7, 12], [7, 12]), ([13], [13]), ([14], [14]), ([14], [14]), ([], []), ([17, 15, 13, 0, 1, 2, 3, 4, 5, 6, 7, 8, 9, 10, 11, 12, 13, 14, 15, 17], [15, 17]), ([16, 18, 0, 1, 2, 3, 4, 5, 6, 7, 8, 9, 10, 11, 12, 13, 14, 15, 16, 17, 18], [16])])
def spec_TimeOf.B10 : List Nat := [0, 0, 0, 6, 14, 30, 63, 127, 0, 0, 768, 1792, 3840, 8191, 16383, 32767, 32767, 0, 196607, 524287]
theorem spec_TimeOf.tab10 : rtab .any (opsOf Try.f111 10) = spec_TimeOf.T10 := by kernel_rfl
theorem spec_TimeOf.bits10 : waitsOk spec_TimeOf.T10.2 spec_TimeOf.B10 = true := by kernel_rfl
set_option maxHeartbeats 8000000 in
set_option maxRecDepth 100000 in
theorem spec_TimeOf.calls (k : Nat) (A0 : Option Addr) (c0 : Nat) (l0 : List (S140)) (a1 : Int) (r1 : Int) (r2 : Int) (r3 : Bool) (w : World) (hr0 : Kd.C k140 w A0 l0.length l0) (hc0 : l0.length ≤ c0) (h : spec_TimeOf.f k l0 a1 = some (r1, r2, r3)) :
  Calls Try.prog 111 #[.slice A0 l0.length c0, .int .i64 a1] w fun e w' => e = .returned (.tuple #[.agg #[.int .i64 r1, .int .i64 r2], .bool r3]) ∧ Below w.heap.size w w' := by
 have hu134 := Try.underlying134
 have HR0 := sk_' hr0
 have HC0 := sk_' hc0
 clear hr0 hc0
 have HB := sk_' (Below.refl w.heap.size w)
 have H : ((spec_IsTempo.f k l0).bind fun t971 => (if t971 = true then ((spec_l1In.f a1 0 2000).bind fun t972 => (spec_TimeOf.j0 k l0 a1 (!t972))) else (spec_TimeOf.j0 k l0 a1 true))) = some (r1, r2, r3) := h
 clear h
 have HC3 := sk_' H
 clear H
 go_enter Try.func111, Try.ntmps111
 go_upto_region 1 with (first | ((with_reducible refine gate_dst (N := 4) rfl ?_); refine box_event ?hg (N := 4) ?hd (cs := #[.int .i64 0, .int .i64 0]) (t := 134) ?hr ?_; (case hd => rfl); (case hg => rfl); (case hr => first | (go_simp; done) | (go_simp; rfl)); intro gb970 hg w4 hbox hb; have n0_ := sk_' (pp_' (bm HB) hb); have n1_ := sk_' (hbox); have n2_ := sk_' ((by rw [hg]; exact (ps_' (bm HB)) : w.heap.size ≤ gb970)); have n3_ := sk_' ((by rw [hg]; exact (ps_' (bm HB)) : w.heap.size ≤ gb970)); clear HB; have HB := n0_; have BK970 := n1_; have GW970 := n2_; have GE970 := n3_; clear n0_ n1_ n2_ n3_; clear hb hbox hg))
 (try simp only [Act.put, sa_', sz_', sc_'])
 go_cut [20] (fun v20 wc => ∃ (kq : Nat) (x20_2 : Bool), v20 = .bool x20_2 ∧ Aside0 (spec_TimeOf.j0 kq l0 a1 x20_2 = some (r1, r2, r3)) ∧ Aside0 (kq ≤ k) ∧ Aside0 (wc.heap[gb970]? = some (.cells #[.int .i64 0, .int .i64 0] 134 (0, 0))) ∧ Aside0 (Below w.heap.size w wc))
 case first =>
  have H := HC3.out
  clear HC3
  replace H := bs_' H
  obtain ⟨t971, A50, H⟩ := H
  try dsimp only at H
  have A5 := sk_' A50
  clear A50
  by_cases c6 : t971 = true
  ·
   subst c6
   rw [if_pos rfl] at H
   replace H := bs_' H
   obtain ⟨t972, A70, H⟩ := H
   try dsimp only at H
   have A7 := sk_' A70
   clear A70
   have H' := sk_' H
   clear H
   go_wp2_with (first | ((with_reducible refine xj_' (f := 145) rfl ?_); refine goesL_ (some 14) rfl rfl Try.func145 (by kernel_rfl) rfl #[.slice A0 l0.length c0] rfl (by (try simp only [xm_', xc_', xn_']); first | done | rfl | (simp only [xd_', xt_']; rfl)) ?_; (with_reducible refine (spec_IsTempo.calls k _ _ l0 true _ ?side1 ?side2 A5.out).mono ?_); (case side1 => repeat (first | exact (Kd.C_below HR0.out HB.out) | (with_reducible refine xg_' ?_ _) | (with_reducible refine xe_' ?_ _) | (with_reducible refine xf_' ?_))); (case side2 => exact HC0.out); rintro e w8 ⟨rfl, hb⟩; refine ⟨_, rfl, ?_⟩; have n0_ := sk_' (blk_below (g := gb970) (o := .cells #[.int .i64 0, .int .i64 0] 134 (0, 0)) (by (with_reducible repeat (first | refine kn_' ?_ _ | refine kd_' ?_ | refine ka_' ?_ _)); exact BK970.out) hb); have n1_ := sk_' (pp_' (by repeat (first | (with_reducible first | exact HB.out | apply pa_' | apply pn_' | apply pd_' | refine pt_' ?_ GE970.out) | exact HB.out)) hb); clear BK970; clear HB; have BK970 := n0_; have HB := n1_; clear n0_ n1_; (try clear hb); (try clear hb2); (try clear hk); (try clear hi)) | (go_at_call 80; (with_reducible refine (spec_l1In.calls a1 0 2000 t972 _ A7.out).mono ?_); rintro e w' ⟨rfl, ⟨nd, rfl⟩⟩))
   go_meet
   case rel => exact ⟨_, (!t972), (by first | rfl | (simp; done) | (simp [*]; done)), H', ⟨by first | omega | exact Nat.le_refl _⟩, ⟨by (with_reducible repeat (first | refine kn_' ?_ _ | refine kd_' ?_ | refine ka_' ?_ _)); exact BK970.out⟩, ⟨by repeat (first | (with_reducible first | exact HB.out | apply pa_' | apply pn_' | apply pd_' | refine pt_' ?_ GE970.out) | exact HB.out)⟩⟩
  replace c6 := Bool.eq_false_iff.mpr c6
  subst c6
  rw [if_neg (show ¬ (false = true) by decide)] at H
  have H' := sk_' H
  clear H
  go_wp2_with (first | ((with_reducible refine xj_' (f := 145) rfl ?_); refine goesL_ (some 14) rfl rfl Try.func145 (by kernel_rfl) rfl #[.slice A0 l0.length c0] rfl (by (try simp only [xm_', xc_', xn_']); first | done | rfl | (simp only [xd_', xt_']; rfl)) ?_; (with_reducible refine (spec_IsTempo.calls k _ _ l0 false _ ?side1 ?side2 A5.out).mono ?_); (case side1 => repeat (first | exact (Kd.C_below HR0.out HB.out) | (with_reducible refine xg_' ?_ _) | (with_reducible refine xe_' ?_ _) | (with_reducible refine xf_' ?_))); (case side2 => exact HC0.out); rintro e w9 ⟨rfl, hb⟩; refine ⟨_, rfl, ?_⟩; have n0_ := sk_' (blk_below (g := gb970) (o := .cells #[.int .i64 0, .int .i64 0] 134 (0, 0)) (by (with_reducible repeat (first | refine kn_' ?_ _ | refine kd_' ?_ | refine ka_' ?_ _)); exact BK970.out) hb); have n1_ := sk_' (pp_' (by repeat (first | (with_reducible first | exact HB.out | apply pa_' | apply pn_' | apply pd_' | refine pt_' ?_ GE970.out) | exact HB.out)) hb); clear BK970; clear HB; have BK970 := n0_; have HB := n1_; clear n0_ n1_; (try clear hb); (try clear hb2); (try clear hk); (try clear hi)))
  go_meet
  case rel => exact ⟨_, (true), (by first | rfl | (simp; done) | (simp [*]; done)), H', ⟨by first | omega | exact Nat.le_refl _⟩, ⟨by (with_reducible repeat (first | refine kn_' ?_ _ | refine kd_' ?_ | refine ka_' ?_ _)); exact BK970.out⟩, ⟨by repeat (first | (with_reducible first | exact HB.out | apply pa_' | apply pn_' | apply pd_' | refine pt_' ?_ GE970.out) | exact HB.out)⟩⟩
 case rest =>
  clear HC3
  try clear c1
  try clear p2
  try clear c6
  obtain ⟨kq, x20_2, rfl, HA, HJ2, BK970, HB⟩ := hcut
  cases kq with
  | zero => exact absurd HA.out (by simp [spec_TimeOf.j0])
  | succ kj2 =>
   have H := HA.out
   clear HA
   simp only [spec_TimeOf.j0] at H
   by_cases c10 : x20_2 = true
   ·
    subst c10
    rw [if_pos rfl] at H
    simp only [Option.some.injEq, Prod.mk.injEq] at H
    obtain ⟨rfl, rfl, rfl⟩ := H
    have hcz11_0 : wc.cell? ⟨gb970, 0, none⟩ = some (.int .i64 0) := (kc_' BK970.out 0).trans rfl
    have hcz11_1 : wc.cell? ⟨gb970, 1, none⟩ = some (.int .i64 0) := (kc_' BK970.out 1).trans rfl
    have hfz11_0 := kf_' BK970.out 0
    have hfz11_1 := kf_' BK970.out 1
    go_wp2
    refine bodyPost_ret (results_ct rfl _ _ gb970 134 #[.int .i64 0, .int .i64 0] (0, 0) _ rfl (by (with_reducible repeat (first | refine kn_' ?_ _ | refine kd_' ?_ | refine ka_' ?_ _)); refine blk_put (cs := #[.int .i64 0, .int .i64 0]) ?_ 1 _ rfl; (with_reducible repeat (first | refine kn_' ?_ _ | refine kd_' ?_ | refine ka_' ?_ _)); refine blk_put (cs := #[.int .i64 0, .int .i64 0]) ?_ 0 _ rfl; (with_reducible repeat (first | refine kn_' ?_ _ | refine kd_' ?_ | refine ka_' ?_ _)); exact BK970.out) Try.underlying134 rfl (by kernel_rfl)) rfl ?_
    exact ⟨by first | rfl | (simp [errW_none, errW_some] <;> rfl) | (simp [*, errW_none, errW_some] <;> rfl), by repeat (first | (with_reducible first | exact HB.out | apply pa_' | apply pn_' | apply pd_' | refine pt_' ?_ GE970.out) | exact HB.out)⟩
   replace c10 := Bool.eq_false_iff.mpr c10
   subst c10
   rw [if_neg (show ¬ (false = true) by decide)] at H
   have H' := sk_' H
   clear H
   go_wp2_with (first | ((with_reducible refine gate_dst (N := 6) rfl ?_); refine box_event ?hg (N := 6) ?hd (cs := #[.int .i64 0, .int .i64 0]) (t := 134) ?hr ?_; (case hd => rfl); (case hg => rfl); (case hr => first | (go_simp; done) | (go_simp; rfl)); intro gb973 hg w12 hbox hb; have n0_ := sk_' (blk_below (g := gb970) (o := .cells #[.int .i64 0, .int .i64 0] 134 (0, 0)) (km BK970) hb); have n1_ := sk_' (pp_' (bm HB) hb); have n2_ := sk_' (hbox); have n3_ := sk_' ((by rw [hg]; exact (ps_' (bm HB)) : w.heap.size ≤ gb973)); have n4_ := sk_' ((by rw [hg]; exact (ps_' (bm HB)) : w.heap.size ≤ gb973)); have n5_ := sk_' ((by rw [hg]; exact Nat.ne_of_lt (blk_lt (g := gb970) (o := .cells #[.int .i64 0, .int .i64 0] 134 (0, 0)) (km BK970)) : gb970 ≠ gb973)); have n6_ := sk_' ((by rw [hg]; exact Nat.ne_of_gt (blk_lt (g := gb970) (o := .cells #[.int .i64 0, .int .i64 0] 134 (0, 0)) (km BK970)) : gb973 ≠ gb970)); clear BK970; clear HB; have BK970 := n0_; have HB := n1_; have BK973 := n2_; have GW973 := n3_; have GE973 := n4_; have NB970_973 := n5_; have NB973_970 := n6_; clear n0_ n1_ n2_ n3_ n4_ n5_ n6_; clear hb hbox hg; have hnb13 := NB973_970.out; have hnc13 := NB970_973.out; have hcz14_0 : w12.cell? ⟨gb973, 0, none⟩ = some (.int .i64 0) := (kc_' BK973.out 0).trans rfl; have hcz14_1 : w12.cell? ⟨gb973, 1, none⟩ = some (.int .i64 0) := (kc_' BK973.out 1).trans rfl; have hfz14_0 := kf_' BK973.out 0; have hfz14_1 := kf_' BK973.out 1))
   go_loopg [7] kj2 (fun kq v7 w' => ∃ (x7_2 : Int) (x971000_2 : Int) (x971001_2 : Int) (x974000_2 : Int) (x974001_2 : Int), v7 = .int .i64 x7_2 ∧ Aside0 (spec_TimeOf.l0 kq l0 a1 x7_2 x974000_2 x974001_2 = some (r1, r2, r3)) ∧ Aside0 (kq ≤ kj2) ∧ Aside0 (w'.heap[gb970]? = some (.cells #[.int .i64 x971000_2, .int .i64 x971001_2] 134 (0, 0))) ∧ Aside0 (w'.heap[gb973]? = some (.cells #[.int .i64 x974000_2, .int .i64 x974001_2] 134 (0, 0))) ∧ Aside0 (Below w.heap.size w w'))
   case atStart => exact ⟨(0), (0), (0), (0), (1), (by first | rfl | (simp; done) | (simp [*]; done)), H', ⟨Nat.le_refl _⟩, ⟨by (with_reducible repeat (first | refine kn_' ?_ _ | refine kd_' ?_ | refine ka_' ?_ _)); refine blk_far ?_ NB970_973.out _; (with_reducible repeat (first | refine kn_' ?_ _ | refine kd_' ?_ | refine ka_' ?_ _)); refine blk_far ?_ NB970_973.out _; (with_reducible repeat (first | refine kn_' ?_ _ | refine kd_' ?_ | refine ka_' ?_ _)); exact BK970.out⟩, ⟨by (with_reducible repeat (first | refine kn_' ?_ _ | refine kd_' ?_ | refine ka_' ?_ _)); refine blk_put (cs := #[.int .i64 0, .int .i64 0]) ?_ 1 _ rfl; (with_reducible repeat (first | refine kn_' ?_ _ | refine kd_' ?_ | refine ka_' ?_ _)); refine blk_put (cs := #[.int .i64 0, .int .i64 0]) ?_ 0 _ rfl; (with_reducible repeat (first | refine kn_' ?_ _ | refine kd_' ?_ | refine ka_' ?_ _)); exact BK973.out⟩, ⟨by repeat (first | (with_reducible first | exact HB.out | apply pa_' | apply pn_' | apply pd_' | refine pt_' ?_ GE970.out | refine pt_' ?_ GE973.out) | exact HB.out)⟩⟩
   case round =>
    clear H'
    try clear c1
    try clear p2
    try clear c6
    try clear c10
    try clear c11
    try clear c13
    try clear c14
    try clear hcz11_0
    try clear hcz11_1
    try clear hcz14_0
    try clear hcz14_1
    try clear hfz11_0
    try clear hfz11_1
    try clear hfz14_0
    try clear hfz14_1
    try clear p2
    obtain ⟨x7_2, x971000_2, x971001_2, x974000_2, x974001_2, rfl, HA, HK2, BK970, BK973, HB⟩ := hrel
    cases gk with
    | zero => exact absurd HA.out (by simp [spec_TimeOf.l0])
    | succ k2 =>
     have H := HA.out
     clear HA
     simp only [spec_TimeOf.l0] at H
     have HC15 := sk_' H
     clear H
     go_upto_region 5 with (fail)
     go_cut [35] (fun v35 wc => ∃ (kq : Nat) (x35_14 : Bool), v35 = .bool x35_14 ∧ Aside0 (spec_TimeOf.j2 kq l0 a1 x7_2 x35_14 x974000_2 x974001_2 = some (r1, r2, r3)) ∧ Aside0 (kq ≤ k2) ∧ Aside0 (wc.heap[gb970]? = some (.cells #[.int .i64 x971000_2, .int .i64 x971001_2] 134 (0, 0))) ∧ Aside0 (wc.heap[gb973]? = some (.cells #[.int .i64 x974000_2, .int .i64 x974001_2] 134 (0, 0))) ∧ Aside0 (Below w.heap.size w wc))
     case first =>
      have H := HC15.out
      clear HC15
      by_cases c16 : x7_2 < (l0.length : Int)
      ·
       rw [if_pos c16] at H
       have c16b0 : decide (x7_2 < (l0.length : Int)) = true := decide_eq_true c16
       clear c16
       (first | rw [c16b0] | (simp only [i64_w, i32_w]; rw [c16b0]) | skip)
       by_cases c17 : 0 ≤ x7_2
       ·
        rw [if_pos c17] at H
        have c17b0 : decide (0 ≤ x7_2) = true := decide_eq_true c17
        clear c17
        have H' := sk_' H
        clear H
        have p974 : 0 ≤ (x7_2 : Int) := od_' (by first | (with_reducible assumption) | assumption)
        have q974 : x7_2 < (l0.length : Int) := od_' (by first | (with_reducible assumption) | assumption)
        obtain ⟨ad974, e974, hx974_0, hx974_1⟩ := at_T140 HR0.out x7_2 p974 q974
        cases e974
        replace hx974_0 := (HB.out.cell (bq_' w _ hx974_0)).trans hx974_0
        replace hx974_1 := (HB.out.cell (bq_' w _ hx974_1)).trans hx974_1
        replace p974 := eq_true p974
        replace q974 := eq_true q974
        go_wp2
        go_meet
        case rel => exact ⟨_, (decide (((rd_T140 l0 x7_2).f0) < a1)), rfl, H', ⟨by have := HJ2.out; have := HK2.out; first | omega | exact Nat.le_refl _⟩, ⟨km BK970⟩, ⟨km BK973⟩, ⟨bm HB⟩⟩
       rw [if_neg c17] at H
       exact absurd H (by simp)
      rw [if_neg c16] at H
      have c16b0 : decide (x7_2 < (l0.length : Int)) = false := decide_eq_false c16
      clear c16
      (first | rw [c16b0] | (simp only [i64_w, i32_w]; rw [c16b0]) | skip)
      have H' := sk_' H
      clear H
      go_wp2
      go_meet
      case rel => exact ⟨_, (false), rfl, H', ⟨by have := HJ2.out; have := HK2.out; first | omega | exact Nat.le_refl _⟩, ⟨km BK970⟩, ⟨km BK973⟩, ⟨bm HB⟩⟩
     case rest =>
      clear HC15
      try clear c1
      try clear p2
      try clear c6
      try clear p9
      try clear q9
      try clear hx9
      try clear c10
      try clear c11
      try clear c13
      try clear c14
      try clear c16
      try clear c16b0
      try clear c17
      try clear c17b0
      try clear hcz11_0
      try clear hcz11_1
      try clear hcz14_0
      try clear hcz14_1
      try clear hfz11_0
      try clear hfz11_1
      try clear hfz14_0
      try clear hfz14_1
      try clear hx974_0
      try clear hx974_1
      try clear p2
      try clear p974
      try clear q974
      obtain ⟨kq, x35_14, rfl, HA, HJ14, BK970, BK973, HB⟩ := hcut
      cases kq with
      | zero => exact absurd HA.out (by simp [spec_TimeOf.j2])
      | succ kj14 =>
       have H := HA.out
       clear HA
       simp only [spec_TimeOf.j2] at H
       by_cases c18 : x35_14 = true
       ·
        subst c18
        rw [if_pos rfl] at H
        have HC19 := sk_' H
        clear H
        go_upto_if 43 with (fail)
        go_cut [8] (fun v8 wc => ∃ (kq : Nat) (x8_18 : Int), v8 = .int .i64 x8_18 ∧ Aside0 (spec_TimeOf.j3 kq l0 a1 x7_2 x8_18 x974000_2 x974001_2 = some (r1, r2, r3)) ∧ Aside0 (kq ≤ kj14) ∧ Aside0 (wc.heap[gb970]? = some (.cells #[.int .i64 x971000_2, .int .i64 x971001_2] 134 (0, 0))) ∧ Aside0 (wc.heap[gb973]? = some (.cells #[.int .i64 x974000_2, .int .i64 x974001_2] 134 (0, 0))) ∧ Aside0 (Below w.heap.size w wc))
        case first =>
         have H := HC19.out
         clear HC19
         by_cases c20 : (wrap64 (x7_2 + 1)) < (l0.length : Int)
         ·
          rw [if_pos c20] at H
          have c20b0 : decide ((wrap64 (x7_2 + 1)) < (l0.length : Int)) = true := decide_eq_true c20
          clear c20
          (first | rw [c20b0] | (simp only [i64_w, i32_w]; rw [c20b0]) | skip)
          obtain ⟨ji21, hji21⟩ : ∃ j_ : Int, (wrap64 (x7_2 + 1)) = j_ := ⟨_, rfl⟩
          replace H : (if 0 ≤ (ji21) then ((spec_Min.f a1 ((rd_T140 l0 (ji21)).f0)).bind fun t976 => (spec_TimeOf.j3 kj14 l0 a1 x7_2 t976 x974000_2 x974001_2)) else (none)) = some (r1, r2, r3) := by first | (rw [hji21] at H; exact H) | (simp only [hji21] at H ⊢; exact H)
          (try rw [hji21] at c20b0)
          have hji21w : (IntKind.i64.wrap (x7_2 + 1)) = ji21 := (i64_w _).trans hji21
          by_cases c22 : 0 ≤ (ji21)
          ·
           rw [if_pos c22] at H
           have c22b0 : decide (0 ≤ (ji21)) = true := decide_eq_true c22
           clear c22
           replace H := bs_' H
           obtain ⟨t976, A230, H⟩ := H
           try dsimp only at H
           have A23 := sk_' A230
           clear A230
           have H' := sk_' H
           clear H
           have p975 : 0 ≤ ((ji21) : Int) := od_' (by first | (with_reducible assumption) | assumption)
           have q975 : (ji21) < (l0.length : Int) := od_' (by first | (with_reducible assumption) | assumption)
           obtain ⟨ad975, e975, hx975_0, hx975_1⟩ := at_T140 HR0.out (ji21) p975 q975
           cases e975
           replace hx975_0 := (HB.out.cell (bq_' w _ hx975_0)).trans hx975_0
           replace hx975_1 := (HB.out.cell (bq_' w _ hx975_1)).trans hx975_1
           replace p975 := eq_true p975
           replace q975 := eq_true q975
           go_wp2_with (first | ((with_reducible refine xj_' (f := 146) rfl ?_); refine goesL_ (some 51) rfl rfl Try.func146 (by kernel_rfl) rfl #[.int .i64 a1, .int .i64 ((rd_T140 l0 (ji21)).f0)] rfl (by (try simp only [xm_', xc_', xn_']); first | done | (simp only [hji21]; rfl) | rfl | (simp only [xd_', xt_']; rfl)) ?_; (with_reducible refine (spec_Min.calls a1 ((rd_T140 l0 (ji21)).f0) t976 _ A23.out).mono ?_); rintro e w' ⟨rfl, ⟨nd, rfl⟩⟩; refine ⟨_, rfl, ?_⟩))
           go_meet
           case rel => exact ⟨_, (t976), rfl, H', ⟨by have := HJ2.out; have := HK2.out; have := HJ14.out; first | omega | exact Nat.le_refl _⟩, ⟨km BK970⟩, ⟨km BK973⟩, ⟨bm HB⟩⟩
          rw [if_neg c22] at H
          exact absurd H (by simp)
         rw [if_neg c20] at H
         have c20b0 : decide ((wrap64 (x7_2 + 1)) < (l0.length : Int)) = false := decide_eq_false c20
         clear c20
         (first | rw [c20b0] | (simp only [i64_w, i32_w]; rw [c20b0]) | skip)
         have H' := sk_' H
         clear H
         go_wp2
         go_meet
         case rel => exact ⟨_, (a1), rfl, H', ⟨by have := HJ2.out; have := HK2.out; have := HJ14.out; first | omega | exact Nat.le_refl _⟩, ⟨km BK970⟩, ⟨km BK973⟩, ⟨bm HB⟩⟩
        case rest =>
         clear HC19
         try clear c1
         try clear c2
         try clear p2
         try clear c6
         try clear p6
         try clear p9
         try clear q9
         try clear hx9
         try clear c10
         try clear c11
         try clear c13
         try clear c14
         try clear c16
         try clear c16b0
         try clear c17
         try clear c17b0
         try clear c18
         try clear c20
         try clear c20b0
         try clear c22
         try clear c22b0
         try clear hcz11_0
         try clear hcz11_1
         try clear hcz14_0
         try clear hcz14_1
         try clear hfz11_0
         try clear hfz11_1
         try clear hfz14_0
         try clear hfz14_1
         try clear hx974_0
         try clear hx974_1
         try clear hx975_0
         try clear hx975_1
         try clear p2
         try clear p9
         try clear p974
         try clear p975
         try clear q9
         try clear q974
         try clear q975
         obtain ⟨kq, x8_18, rfl, HA, HJ18, BK970, BK973, HB⟩ := hcut
         cases kq with
         | zero => exact absurd HA.out (by simp [spec_TimeOf.j3])
         | succ kj18 =>
          have H := HA.out
          clear HA
          simp only [spec_TimeOf.j3] at H
          by_cases c24 : 0 ≤ x7_2
          ·
           rw [if_pos c24] at H
           have c24b0 : decide (0 ≤ x7_2) = true := decide_eq_true c24
           clear c24
           by_cases c25 : x7_2 < (l0.length : Int)
           ·
            rw [if_pos c25] at H
            have c25b0 : decide (x7_2 < (l0.length : Int)) = true := decide_eq_true c25
            clear c25
            replace H := bs_' H
            obtain ⟨⟨t979, t980, t981⟩, A260, H⟩ := H
            try dsimp only at H
            have A26 := sk_' A260
            clear A260
            replace H := bs_' H
            obtain ⟨⟨t983, t984, t985⟩, A270, H⟩ := H
            try dsimp only at H
            have A27 := sk_' A270
            clear A270
            by_cases c28 : t985 = true
            ·
             subst c28
             rw [if_pos rfl] at H
             have H' := sk_' H
             clear H
             try go_wp2
             have n0_ := sk_' (kd_' BK970.out)
             have n1_ := sk_' (kd_' BK973.out)
             have n2_ := sk_' (pd_' HB.out)
             clear BK970
             clear BK973
             clear HB
             have BK970 := n0_
             have BK973 := n1_
             have HB := n2_
             clear n0_ n1_ n2_
             have p977 : 0 ≤ (x7_2 : Int) := od_' (by first | (with_reducible assumption) | assumption)
             have q977 : x7_2 < (l0.length : Int) := od_' (by first | (with_reducible assumption) | assumption)
             obtain ⟨ad977, e977, hx977_0, hx977_1⟩ := at_T140 HR0.out x7_2 p977 q977
             have hw977_1 := hx977_1
             have hw977_0 := hx977_0
             cases e977
             replace hx977_0 := (HB.out.cell (bq_' w _ hx977_0)).trans hx977_0
             replace hx977_1 := (HB.out.cell (bq_' w _ hx977_1)).trans hx977_1
             replace p977 := eq_true p977
             replace q977 := eq_true q977
             have p978 : 0 ≤ (x7_2 : Int) := od_' (by first | (with_reducible assumption) | assumption)
             have q978 : x7_2 < (l0.length : Int) := od_' (by first | (with_reducible assumption) | assumption)
             obtain ⟨ad978, e978, hx978_0, hx978_1⟩ := at_T140 HR0.out x7_2 p978 q978
             have hw978_1 := hx978_1
             have hw978_0 := hx978_0
             obtain rfl : ad977 = ad978 := (by injection e978)
             replace hx978_0 := (HB.out.cell (bq_' w _ hx978_0)).trans hx978_0
             replace hx978_1 := (HB.out.cell (bq_' w _ hx978_1)).trans hx978_1
             replace p978 := eq_true p978
             replace q978 := eq_true q978
             refine start_ (n := 20) (S := fun w' => w'.cell? (ad977.add ((x7_2).toNat * 2)) = some (.int .i64 ((rd_T140 l0 x7_2).f0)) ∧ w'.cell? ⟨(ad977.add ((x7_2).toNat * 2)).block, (ad977.add ((x7_2).toNat * 2)).off + 1, none⟩ = some (.int .i64 ((rd_T140 l0 x7_2).f1)) ∧ w'.cell? (ad977.add ((x7_2).toNat * 2)) = some (.int .i64 ((rd_T140 l0 x7_2).f0)) ∧ w'.cell? ⟨(ad977.add ((x7_2).toNat * 2)).block, (ad977.add ((x7_2).toNat * 2)).off + 1, none⟩ = some (.int .i64 ((rd_T140 l0 x7_2).f1))) (ds := []) #[false, false, false, false, false, false, false, false, false, false, false, false, false, false, false, false, false, false, false, false] (by kernel_rfl) rfl rfl ⟨((HB.out.cell (bq_' w _ hw977_0)).trans hw977_0), ((HB.out.cell (bq_' w _ hw977_1)).trans hw977_1), ((HB.out.cell (bq_' w _ hw978_0)).trans hw978_0), ((HB.out.cell (bq_' w _ hw978_1)).trans hw978_1)⟩ (fun hHeld => ?_); refine with_tabW spec_TimeOf.tab10 spec_TimeOf.bits10 (fun HT_ HW_ => ?_)
             generalize wc.drew = w29 at BK970 BK973 HB hx977_0 hx977_1 hx978_0 hx978_1 hHeld ⊢
             refine pure_ (i := 0) (N := some 53) (v := ?_) (a' := ?_) #[true, false, false, false, false, false, false, false, false, false, false, false, false, false, false, false, false, false, false, false] rfl rfl (any_of HT_.out (by kernel_rfl)) (fun _ _ _ h => h) (Or.inl ⟨by rfl, ?_⟩) ?_ ?_
             rotate_left
             ·
              intro w'
              go_simp
              with_reducible rfl
             rotate_left
             ·
              simp only [Act.put, sa_', sz_', sc_', i64_w, i32_w]
              rfl
             refine pure_ (i := 1) (N := some 54) (v := ?_) (a' := ?_) #[true, true, false, false, false, false, false, false, false, false, false, false, false, false, false, false, false, false, false, false] rfl rfl (any_of HT_.out (by kernel_rfl)) (fun _ _ _ h => h) (Or.inl ⟨by rfl, ?_⟩) ?_ ?_
             rotate_left
             ·
              intro w'
              go_simp
              with_reducible rfl
             rotate_left
             ·
              simp only [Act.put, sa_', sz_', sc_', i64_w, i32_w]
              rfl
             refine pure_ (i := 2) (N := some 55) (v := ?_) (a' := ?_) #[true, true, true, false, false, false, false, false, false, false, false, false, false, false, false, false, false, false, false, false] rfl rfl (any_of HT_.out (by kernel_rfl)) (fun _ _ _ h => h) (Or.inl ⟨by rfl, ?_⟩) ?_ ?_
             rotate_left
             ·
              intro w'
              go_simp
              with_reducible rfl
             rotate_left
             ·
              simp only [Act.put, sa_', sz_', sc_', i64_w, i32_w]
              rfl
             refine pure_ (i := 3) (N := some 56) (v := ?_) (a' := ?_) #[true, true, true, true, false, false, false, false, false, false, false, false, false, false, false, false, false, false, false, false] rfl rfl (any_of HT_.out (by kernel_rfl)) (fun _ _ _ h => h) (Or.inl ⟨by rfl, ?_⟩) ?_ ?_
             rotate_left
             ·
              intro w'
              go_simp
              with_reducible rfl
             rotate_left
             ·
              simp only [Act.put, sa_', sz_', sc_', i64_w, i32_w]
              rfl
             refine pure_ (i := 4) (N := some 57) (v := ?_) (a' := ?_) #[true, true, true, true, true, false, false, false, false, false, false, false, false, false, false, false, false, false, false, false] rfl rfl (any_of HT_.out (by kernel_rfl)) (fun _ _ _ h => h) (Or.inl ⟨by rfl, ?_⟩) ?_ ?_
             rotate_left
             ·
              intro w'
              go_simp
              with_reducible rfl
             rotate_left
             ·
              simp only [Act.put, sa_', sz_', sc_', i64_w, i32_w]
              rfl
             refine pure_ (i := 8) (N := some 61) (v := ?_) (a' := ?_) #[true, true, true, true, true, false, false, false, true, false, false, false, false, false, false, false, false, false, false, false] rfl rfl (any_of HT_.out (by kernel_rfl)) (fun _ _ _ h => h) (Or.inl ⟨by rfl, ?_⟩) ?_ ?_
             rotate_left
             ·
              intro w'
              go_simp
              with_reducible rfl
             rotate_left
             ·
              simp only [Act.put, sa_', sz_', sc_', i64_w, i32_w]
              rfl
             refine pure_ (i := 9) (N := some 62) (v := ?_) (a' := ?_) #[true, true, true, true, true, false, false, false, true, true, false, false, false, false, false, false, false, false, false, false] rfl rfl (any_of HT_.out (by kernel_rfl)) (fun _ _ _ h => h) (Or.inl ⟨by rfl, ?_⟩) ?_ ?_
             rotate_left
             ·
              intro w'
              go_simp
              with_reducible rfl
             rotate_left
             ·
              simp only [Act.put, sa_', sz_', sc_', i64_w, i32_w]
              rfl
             refine pure_ (i := 10) (N := some 63) (v := ?_) (a' := ?_) #[true, true, true, true, true, false, false, false, true, true, true, false, false, false, false, false, false, false, false, false] rfl rfl (any_of HT_.out (by kernel_rfl)) (fun _ _ _ h => h) (Or.inl ⟨by rfl, ?_⟩) ?_ ?_
             rotate_left
             ·
              intro w'
              go_simp
              with_reducible rfl
             rotate_left
             ·
              simp only [Act.put, sa_', sz_', sc_', i64_w, i32_w]
              rfl
             refine pure_ (i := 11) (N := some 64) (v := ?_) (a' := ?_) #[true, true, true, true, true, false, false, false, true, true, true, true, false, false, false, false, false, false, false, false] rfl rfl (any_of HT_.out (by kernel_rfl)) (fun _ _ _ h => h) (Or.inl ⟨by rfl, ?_⟩) ?_ ?_
             rotate_left
             ·
              intro w'
              go_simp
              with_reducible rfl
             rotate_left
             ·
              simp only [Act.put, sa_', sz_', sc_', i64_w, i32_w]
              rfl
             refine take_ (i := 5) (N := some 58) (v := ?_) (a' := ?_) #[true, true, true, true, true, true, false, false, true, true, true, true, false, false, false, false, false, false, false, false] rfl rfl (take_ofW HT_.out HW_.out (by kernel_rfl)) (fun _ _ _ h => h) (Or.inl ⟨by rfl, ?_⟩) hHeld ?_ ?_
             rotate_left
             ·
              rintro w' ⟨s0, s1, s2, s3⟩
              go_simp
              with_reducible rfl
             rotate_left
             ·
              simp only [Act.put, sa_', sz_', sc_', i64_w, i32_w]
              rfl
             refine pure_ (i := 6) (N := some 59) (v := ?_) (a' := ?_) #[true, true, true, true, true, true, true, false, true, true, true, true, false, false, false, false, false, false, false, false] rfl rfl (any_of HT_.out (by kernel_rfl)) (fun _ _ _ h => h) (Or.inl ⟨by rfl, ?_⟩) ?_ ?_
             rotate_left
             ·
              intro w'
              go_simp
              with_reducible rfl
             rotate_left
             ·
              simp only [Act.put, sa_', sz_', sc_', i64_w, i32_w]
              rfl
             refine pure_ (i := 7) (N := some 60) (v := ?_) (a' := ?_) #[true, true, true, true, true, true, true, true, true, true, true, true, false, false, false, false, false, false, false, false] rfl rfl (any_of HT_.out (by kernel_rfl)) (fun _ _ _ h => h) (Or.inl ⟨by rfl, ?_⟩) ?_ ?_
             rotate_left
             ·
              intro w'
              go_simp
              with_reducible rfl
             rotate_left
             ·
              simp only [Act.put, sa_', sz_', sc_', i64_w, i32_w]
              rfl
             refine take_ (i := 12) (N := some 65) (v := ?_) (a' := ?_) #[true, true, true, true, true, true, true, true, true, true, true, true, true, false, false, false, false, false, false, false] rfl rfl (take_ofW HT_.out HW_.out (by kernel_rfl)) (fun _ _ _ h => h) (Or.inl ⟨by rfl, ?_⟩) hHeld ?_ ?_
             rotate_left
             ·
              rintro w' ⟨s0, s1, s2, s3⟩
              go_simp
              with_reducible rfl
             rotate_left
             ·
              simp only [Act.put, sa_', sz_', sc_', i64_w, i32_w]
              rfl
             refine join_ (σ := Nat) 2 #[true, true, true, true, true, true, true, true, true, true, true, true, true, true, true, true, true, true, false, false] (fun s_ => [(66, .tuple #[.agg #[.int .i64 t979, .int .i64 t980], .bool t981]), (9, .pointer (some ⟨s_, 0, none⟩)), (52, .tuple #[.agg #[.int .i64 t979, .int .i64 t980], .bool t981]), (67, .agg #[.int .i64 t979, .int .i64 t980]), (68, .bool t981)]) (fun s_ w' => (w'.cell? (ad977.add ((x7_2).toNat * 2)) = some (.int .i64 ((rd_T140 l0 x7_2).f0)) ∧ w'.cell? ⟨(ad977.add ((x7_2).toNat * 2)).block, (ad977.add ((x7_2).toNat * 2)).off + 1, none⟩ = some (.int .i64 ((rd_T140 l0 x7_2).f1)) ∧ w'.cell? (ad977.add ((x7_2).toNat * 2)) = some (.int .i64 ((rd_T140 l0 x7_2).f0)) ∧ w'.cell? ⟨(ad977.add ((x7_2).toNat * 2)).block, (ad977.add ((x7_2).toNat * 2)).off + 1, none⟩ = some (.int .i64 ((rd_T140 l0 x7_2).f1))) ∧ (w'.heap[gb970]? = some (.cells #[.int .i64 x971000_2, .int .i64 x971001_2] 134 (0, 0))) ∧ (w'.heap[gb973]? = some (.cells #[.int .i64 x974000_2, .int .i64 x974001_2] 134 (0, 0))) ∧ (w'.heap[s_]? = some (.cells #[.int .i64 0, .int .i64 0] 134 (0, 0))) ∧ (w.heap.size ≤ s_) ∧ (w.heap.size ≤ s_) ∧ (gb970 ≠ s_) ∧ (s_ ≠ gb970) ∧ (gb973 ≠ s_) ∧ (s_ ≠ gb973) ∧ (Below w.heap.size w w')) ?_ ?_
             rotate_left
             ·
              intro hCont
              refine two_ (i := 13) (j := 17) (Ni := some 66) (Nj := some 9) #[true, true, true, true, true, true, true, true, true, true, true, true, true, true, false, false, false, false, false, false] #[true, true, true, true, true, true, true, true, true, true, true, true, true, false, false, false, false, true, false, false] rfl rfl rfl rfl (two_of HT_.out (by kernel_rfl)) (by decide) (by decide) (fun K hK => ?_) (fun K hK => ?_)
              ·
               skip
               refine goes_ Try.func147 (by kernel_rfl) rfl #[.int .i64 (wrap64 ((wrap64 (x8_18 - ((rd_T140 l0 x7_2).f0))) * 5000)), .int .i64 ((rd_T140 l0 x7_2).f1)] (by rfl) rfl rfl (by (try simp only [xm_', xc_', xn_']); first | done | rfl | (simp only [xd_', xt_']; rfl)) ?_
               with_reducible refine (spec_MakeRatio.calls kj18 (wrap64 ((wrap64 (x8_18 - ((rd_T140 l0 x7_2).f0))) * 5000)) ((rd_T140 l0 x7_2).f1) t979 t980 t981 _ A26.out).mono ?_
               rintro e w30 ⟨rfl, hb⟩
               refine ⟨_, rfl, ?_⟩
               have n0_ := sk_' (blk_below (g := gb970) (o := .cells #[.int .i64 x971000_2, .int .i64 x971001_2] 134 (0, 0)) (km BK970) hb)
               have n1_ := sk_' (blk_below (g := gb973) (o := .cells #[.int .i64 x974000_2, .int .i64 x974001_2] 134 (0, 0)) (km BK973) hb)
               have n2_ := sk_' (pp_' (bm HB) hb)
               clear BK970
               clear BK973
               clear HB
               have BK970 := n0_
               have BK973 := n1_
               have HB := n2_
               clear n0_ n1_ n2_
               (try clear hb)
               (try clear hb2)
               (try clear hk)
               (try clear hi)
               refine hK.out _ _ ⟨((HB.out.cell (bq_' w _ hw977_0)).trans hw977_0), ((HB.out.cell (bq_' w _ hw977_1)).trans hw977_1), ((HB.out.cell (bq_' w _ hw978_0)).trans hw978_0), ((HB.out.cell (bq_' w _ hw978_1)).trans hw978_1)⟩ (fun hHeld => ?_)
               clear hK K
               refine norm_ (a' := ?_) ?_ ?_
               rotate_left
               ·
                show Act.put _ (some 66) _ = _
                simp only [Act.put, sa_', sz_', sc_', i64_w, i32_w]
                rfl
               refine pure_ (i := 14) (N := some 52) (v := ?_) (a' := ?_) #[true, true, true, true, true, true, true, true, true, true, true, true, true, true, true, false, false, false, false, false] rfl rfl (any_of HT_.out (by kernel_rfl)) (fun _ _ _ h => h) (Or.inl ⟨by rfl, ?_⟩) ?_ ?_
               rotate_left
               ·
                intro w'
                go_simp
                with_reducible rfl
               rotate_left
               ·
                simp only [Act.put, sa_', sz_', sc_', i64_w, i32_w]
                rfl
               refine pure_ (i := 15) (N := some 67) (v := ?_) (a' := ?_) #[true, true, true, true, true, true, true, true, true, true, true, true, true, true, true, true, false, false, false, false] rfl rfl (any_of HT_.out (by kernel_rfl)) (fun _ _ _ h => h) (Or.inl ⟨by rfl, ?_⟩) ?_ ?_
               rotate_left
               ·
                intro w'
                go_simp
                with_reducible rfl
               rotate_left
               ·
                simp only [Act.put, sa_', sz_', sc_', i64_w, i32_w]
                rfl
               refine pure_ (i := 16) (N := some 68) (v := ?_) (a' := ?_) #[true, true, true, true, true, true, true, true, true, true, true, true, true, true, true, true, true, false, false, false] rfl rfl (any_of HT_.out (by kernel_rfl)) (fun _ _ _ h => h) (Or.inl ⟨by rfl, ?_⟩) ?_ ?_
               rotate_left
               ·
                intro w'
                go_simp
                with_reducible rfl
               rotate_left
               ·
                simp only [Act.put, sa_', sz_', sc_', i64_w, i32_w]
                rfl
               refine one_ (i := 17) (N := some 9) #[true, true, true, true, true, true, true, true, true, true, true, true, true, true, true, true, true, true, false, false] rfl rfl (one_of HT_.out (by kernel_rfl)) (by decide) (fun K hK => ?_)
               refine box_step ?hg (N := 9) ?hd (cs := #[.int .i64 0, .int .i64 0]) (t := 134) ?hr ?_; (case hd => rfl); (case hg => rfl); (case hr => first | (go_simp; done) | (go_simp; rfl))
               intro gb982 hg w31 hbox hb
               have n0_ := sk_' (blk_below (g := gb970) (o := .cells #[.int .i64 x971000_2, .int .i64 x971001_2] 134 (0, 0)) (km BK970) hb)
               have n1_ := sk_' (blk_below (g := gb973) (o := .cells #[.int .i64 x974000_2, .int .i64 x974001_2] 134 (0, 0)) (km BK973) hb)
               have n2_ := sk_' (pp_' (bm HB) hb)
               have n3_ := sk_' (hbox)
               have n4_ := sk_' ((by rw [hg]; exact (ps_' (bm HB)) : w.heap.size ≤ gb982))
               have n5_ := sk_' ((by rw [hg]; exact (ps_' (bm HB)) : w.heap.size ≤ gb982))
               have n6_ := sk_' ((by rw [hg]; exact Nat.ne_of_lt (blk_lt (g := gb970) (o := .cells #[.int .i64 x971000_2, .int .i64 x971001_2] 134 (0, 0)) (km BK970)) : gb970 ≠ gb982))
               have n7_ := sk_' ((by rw [hg]; exact Nat.ne_of_gt (blk_lt (g := gb970) (o := .cells #[.int .i64 x971000_2, .int .i64 x971001_2] 134 (0, 0)) (km BK970)) : gb982 ≠ gb970))
               have n8_ := sk_' ((by rw [hg]; exact Nat.ne_of_lt (blk_lt (g := gb973) (o := .cells #[.int .i64 x974000_2, .int .i64 x974001_2] 134 (0, 0)) (km BK973)) : gb973 ≠ gb982))
               have n9_ := sk_' ((by rw [hg]; exact Nat.ne_of_gt (blk_lt (g := gb973) (o := .cells #[.int .i64 x974000_2, .int .i64 x974001_2] 134 (0, 0)) (km BK973)) : gb982 ≠ gb973))
               clear BK970
               clear BK973
               clear HB
               have BK970 := n0_
               have BK973 := n1_
               have HB := n2_
               have BK982 := n3_
               have GW982 := n4_
               have GE982 := n5_
               have NB970_982 := n6_
               have NB982_970 := n7_
               have NB973_982 := n8_
               have NB982_973 := n9_
               clear n0_ n1_ n2_ n3_ n4_ n5_ n6_ n7_ n8_ n9_
               clear hb hbox hg
               refine hK.out _ _ ⟨((HB.out.cell (bq_' w _ hw977_0)).trans hw977_0), ((HB.out.cell (bq_' w _ hw977_1)).trans hw977_1), ((HB.out.cell (bq_' w _ hw978_0)).trans hw978_0), ((HB.out.cell (bq_' w _ hw978_1)).trans hw978_1)⟩ (fun hHeld => ?_)
               clear hK K
               refine norm_ (a' := ?_) ?_ ?_
               rotate_left
               ·
                show Act.put _ (some 9) _ = _
                simp only [Act.put, sa_', sz_', sc_', i64_w, i32_w]
                rfl
               exact norm_ (by simp only [putAll, Act.put, sa_', sz_', sc_']) (hCont (gb982) _ ⟨hHeld, (km BK970), (km BK973), (km BK982), GW982.out, GE982.out, NB970_982.out, NB982_970.out, NB973_982.out, NB982_973.out, (bm HB)⟩)
              skip
              refine box_step ?hg (N := 9) ?hd (cs := #[.int .i64 0, .int .i64 0]) (t := 134) ?hr ?_; (case hd => rfl); (case hg => rfl); (case hr => first | (go_simp; done) | (go_simp; rfl))
              intro gb982 hg w30 hbox hb
              have n0_ := sk_' (blk_below (g := gb970) (o := .cells #[.int .i64 x971000_2, .int .i64 x971001_2] 134 (0, 0)) (km BK970) hb)
              have n1_ := sk_' (blk_below (g := gb973) (o := .cells #[.int .i64 x974000_2, .int .i64 x974001_2] 134 (0, 0)) (km BK973) hb)
              have n2_ := sk_' (pp_' (bm HB) hb)
              have n3_ := sk_' (hbox)
              have n4_ := sk_' ((by rw [hg]; exact (ps_' (bm HB)) : w.heap.size ≤ gb982))
              have n5_ := sk_' ((by rw [hg]; exact (ps_' (bm HB)) : w.heap.size ≤ gb982))
              have n6_ := sk_' ((by rw [hg]; exact Nat.ne_of_lt (blk_lt (g := gb970) (o := .cells #[.int .i64 x971000_2, .int .i64 x971001_2] 134 (0, 0)) (km BK970)) : gb970 ≠ gb982))
              have n7_ := sk_' ((by rw [hg]; exact Nat.ne_of_gt (blk_lt (g := gb970) (o := .cells #[.int .i64 x971000_2, .int .i64 x971001_2] 134 (0, 0)) (km BK970)) : gb982 ≠ gb970))
              have n8_ := sk_' ((by rw [hg]; exact Nat.ne_of_lt (blk_lt (g := gb973) (o := .cells #[.int .i64 x974000_2, .int .i64 x974001_2] 134 (0, 0)) (km BK973)) : gb973 ≠ gb982))
              have n9_ := sk_' ((by rw [hg]; exact Nat.ne_of_gt (blk_lt (g := gb973) (o := .cells #[.int .i64 x974000_2, .int .i64 x974001_2] 134 (0, 0)) (km BK973)) : gb982 ≠ gb973))
              clear BK970
              clear BK973
              clear HB
              have BK970 := n0_
              have BK973 := n1_
              have HB := n2_
              have BK982 := n3_
              have GW982 := n4_
              have GE982 := n5_
              have NB970_982 := n6_
              have NB982_970 := n7_
              have NB973_982 := n8_
              have NB982_973 := n9_
              clear n0_ n1_ n2_ n3_ n4_ n5_ n6_ n7_ n8_ n9_
              clear hb hbox hg
              refine hK.out _ _ ⟨((HB.out.cell (bq_' w _ hw977_0)).trans hw977_0), ((HB.out.cell (bq_' w _ hw977_1)).trans hw977_1), ((HB.out.cell (bq_' w _ hw978_0)).trans hw978_0), ((HB.out.cell (bq_' w _ hw978_1)).trans hw978_1)⟩ (fun hHeld => ?_)
              clear hK K
              refine norm_ (a' := ?_) ?_ ?_
              rotate_left
              ·
               show Act.put _ (some 9) _ = _
               simp only [Act.put, sa_', sz_', sc_', i64_w, i32_w]
               rfl
              refine one_ (i := 13) (N := some 66) #[true, true, true, true, true, true, true, true, true, true, true, true, true, true, false, false, false, true, false, false] rfl rfl (one_of HT_.out (by kernel_rfl)) (by decide) (fun K hK => ?_)
              refine goes_ Try.func147 (by kernel_rfl) rfl #[.int .i64 (wrap64 ((wrap64 (x8_18 - ((rd_T140 l0 x7_2).f0))) * 5000)), .int .i64 ((rd_T140 l0 x7_2).f1)] (by rfl) rfl rfl (by (try simp only [xm_', xc_', xn_']); first | done | rfl | (simp only [xd_', xt_']; rfl)) ?_
              with_reducible refine (spec_MakeRatio.calls kj18 (wrap64 ((wrap64 (x8_18 - ((rd_T140 l0 x7_2).f0))) * 5000)) ((rd_T140 l0 x7_2).f1) t979 t980 t981 _ A26.out).mono ?_
              rintro e w31 ⟨rfl, hb⟩
              refine ⟨_, rfl, ?_⟩
              have n0_ := sk_' (blk_below (g := gb970) (o := .cells #[.int .i64 x971000_2, .int .i64 x971001_2] 134 (0, 0)) (km BK970) hb)
              have n1_ := sk_' (blk_below (g := gb973) (o := .cells #[.int .i64 x974000_2, .int .i64 x974001_2] 134 (0, 0)) (km BK973) hb)
              have n2_ := sk_' (blk_below (g := gb982) (o := .cells #[.int .i64 0, .int .i64 0] 134 (0, 0)) (km BK982) hb)
              have n3_ := sk_' (pp_' (bm HB) hb)
              clear BK970
              clear BK973
              clear BK982
              clear HB
              have BK970 := n0_
              have BK973 := n1_
              have BK982 := n2_
              have HB := n3_
              clear n0_ n1_ n2_ n3_
              (try clear hb)
              (try clear hb2)
              (try clear hk)
              (try clear hi)
              refine hK.out _ _ ⟨((HB.out.cell (bq_' w _ hw977_0)).trans hw977_0), ((HB.out.cell (bq_' w _ hw977_1)).trans hw977_1), ((HB.out.cell (bq_' w _ hw978_0)).trans hw978_0), ((HB.out.cell (bq_' w _ hw978_1)).trans hw978_1)⟩ (fun hHeld => ?_)
              clear hK K
              refine norm_ (a' := ?_) ?_ ?_
              rotate_left
              ·
               show Act.put _ (some 66) _ = _
               simp only [Act.put, sa_', sz_', sc_', i64_w, i32_w]
               rfl
              refine pure_ (i := 14) (N := some 52) (v := ?_) (a' := ?_) #[true, true, true, true, true, true, true, true, true, true, true, true, true, true, true, false, false, true, false, false] rfl rfl (any_of HT_.out (by kernel_rfl)) (fun _ _ _ h => h) (Or.inl ⟨by rfl, ?_⟩) ?_ ?_
              rotate_left
              ·
               intro w'
               go_simp
               with_reducible rfl
              rotate_left
              ·
               simp only [Act.put, sa_', sz_', sc_', i64_w, i32_w]
               rfl
              refine pure_ (i := 15) (N := some 67) (v := ?_) (a' := ?_) #[true, true, true, true, true, true, true, true, true, true, true, true, true, true, true, true, false, true, false, false] rfl rfl (any_of HT_.out (by kernel_rfl)) (fun _ _ _ h => h) (Or.inl ⟨by rfl, ?_⟩) ?_ ?_
              rotate_left
              ·
               intro w'
               go_simp
               with_reducible rfl
              rotate_left
              ·
               simp only [Act.put, sa_', sz_', sc_', i64_w, i32_w]
               rfl
              refine pure_ (i := 16) (N := some 68) (v := ?_) (a' := ?_) #[true, true, true, true, true, true, true, true, true, true, true, true, true, true, true, true, true, true, false, false] rfl rfl (any_of HT_.out (by kernel_rfl)) (fun _ _ _ h => h) (Or.inl ⟨by rfl, ?_⟩) ?_ ?_
              rotate_left
              ·
               intro w'
               go_simp
               with_reducible rfl
              rotate_left
              ·
               simp only [Act.put, sa_', sz_', sc_', i64_w, i32_w]
               rfl
              exact norm_ (by simp only [putAll, Act.put, sa_', sz_', sc_']) (hCont (gb982) _ ⟨hHeld, (km BK970), (km BK973), (km BK982), GW982.out, GE982.out, NB970_982.out, NB982_970.out, NB973_982.out, NB982_973.out, (bm HB)⟩)
             rintro gb982 w32 ⟨hS_, h0_, h1_, h2_, h3_, h4_, h5_, h6_, h7_, h8_, h9_⟩
             have n0_ : Aside0 (w32.heap[gb970]? = some (.cells #[.int .i64 x971000_2, .int .i64 x971001_2] 134 (0, 0))) := ⟨h0_⟩
             have n1_ : Aside0 (w32.heap[gb973]? = some (.cells #[.int .i64 x974000_2, .int .i64 x974001_2] 134 (0, 0))) := ⟨h1_⟩
             have n2_ : Aside0 (w32.heap[gb982]? = some (.cells #[.int .i64 0, .int .i64 0] 134 (0, 0))) := ⟨h2_⟩
             have n3_ : Aside0 (w.heap.size ≤ gb982) := ⟨h3_⟩
             have n4_ : Aside0 (w.heap.size ≤ gb982) := ⟨h4_⟩
             have n5_ : Aside0 (gb970 ≠ gb982) := ⟨h5_⟩
             have n6_ : Aside0 (gb982 ≠ gb970) := ⟨h6_⟩
             have n7_ : Aside0 (gb973 ≠ gb982) := ⟨h7_⟩
             have n8_ : Aside0 (gb982 ≠ gb973) := ⟨h8_⟩
             have n9_ : Aside0 (Below w.heap.size w w32) := ⟨h9_⟩
             clear BK970
             clear BK973
             clear HB
             clear h0_ h1_ h2_ h3_ h4_ h5_ h6_ h7_ h8_ h9_
             have BK970 := n0_
             have BK973 := n1_
             have BK982 := n2_
             have GW982 := n3_
             have GE982 := n4_
             have NB970_982 := n5_
             have NB982_970 := n6_
             have NB973_982 := n7_
             have NB982_973 := n8_
             have HB := n9_
             clear n0_ n1_ n2_ n3_ n4_ n5_ n6_ n7_ n8_ n9_
             have hHeld : w32.cell? (ad977.add ((x7_2).toNat * 2)) = some (.int .i64 ((rd_T140 l0 x7_2).f0)) ∧ w32.cell? ⟨(ad977.add ((x7_2).toNat * 2)).block, (ad977.add ((x7_2).toNat * 2)).off + 1, none⟩ = some (.int .i64 ((rd_T140 l0 x7_2).f1)) ∧ w32.cell? (ad977.add ((x7_2).toNat * 2)) = some (.int .i64 ((rd_T140 l0 x7_2).f0)) ∧ w32.cell? ⟨(ad977.add ((x7_2).toNat * 2)).block, (ad977.add ((x7_2).toNat * 2)).off + 1, none⟩ = some (.int .i64 ((rd_T140 l0 x7_2).f1)) := hS_
             refine norm_ (a' := ?_) ?_ ?_
             rotate_left
             ·
              simp only [putAll, Act.put, sa_', sz_', sc_']
              rfl
             refine one_ (i := 18) (N := none) #[true, true, true, true, true, true, true, true, true, true, true, true, true, true, true, true, true, true, true, false] rfl rfl (one_of HT_.out (by kernel_rfl)) (by decide) (fun K hK => ?_)
             have hs33 : w32.cell? ⟨gb982, 0, none⟩ = some (.int .i64 0) := (kc_' BK982.out 0).trans rfl
             have hfs33 := kf_' BK982.out 0
             have hns33_0 := NB970_982.out
             have hns33_1 := NB973_982.out
             have hms33_0 := NB982_970.out
             have hms33_1 := NB982_973.out
             have hs34 : w32.cell? ⟨gb982, 1, none⟩ = some (.int .i64 0) := (kc_' BK982.out 1).trans rfl
             have hfs34 := kf_' BK982.out 1
             have hns34_0 := NB970_982.out
             have hns34_1 := NB973_982.out
             have hms34_0 := NB982_970.out
             have hms34_1 := NB982_973.out
             refine skip_ (w1 := ?_) (by rfl) rfl ?_ ?_
             rotate_left
             ·
              go_simp
              rfl
             refine hK.out _ _ ⟨((cell_far (p := ⟨gb982, _, none⟩) (by first | exact Nat.ne_of_lt (Nat.lt_of_lt_of_le (by have := bq_' _ _ hw977_0; first | rwa [add_block] at this | exact this) GW982.out) | (rw [add_block]; exact Nat.ne_of_lt (Nat.lt_of_lt_of_le (by have := bq_' _ _ hw977_0; first | rwa [add_block] at this | exact this) GW982.out)) | (show (Addr.add _ _).block ≠ _; rw [add_block]; exact Nat.ne_of_lt (Nat.lt_of_lt_of_le (by have := bq_' _ _ hw977_0; first | rwa [add_block] at this | exact this) GW982.out)) | (dsimp only; exact Nat.ne_of_lt (Nat.lt_of_lt_of_le (by have := bq_' _ _ hw977_0; first | rwa [add_block] at this | exact this) GW982.out))) _).trans (((cell_far (p := ⟨gb982, _, none⟩) (by first | exact Nat.ne_of_lt (Nat.lt_of_lt_of_le (by have := bq_' _ _ hw977_0; first | rwa [add_block] at this | exact this) GW982.out) | (rw [add_block]; exact Nat.ne_of_lt (Nat.lt_of_lt_of_le (by have := bq_' _ _ hw977_0; first | rwa [add_block] at this | exact this) GW982.out)) | (show (Addr.add _ _).block ≠ _; rw [add_block]; exact Nat.ne_of_lt (Nat.lt_of_lt_of_le (by have := bq_' _ _ hw977_0; first | rwa [add_block] at this | exact this) GW982.out)) | (dsimp only; exact Nat.ne_of_lt (Nat.lt_of_lt_of_le (by have := bq_' _ _ hw977_0; first | rwa [add_block] at this | exact this) GW982.out))) _).trans (hHeld.1)))), ((cell_far (p := ⟨gb982, _, none⟩) (by first | exact Nat.ne_of_lt (Nat.lt_of_lt_of_le (by have := bq_' _ _ hw977_1; first | rwa [add_block] at this | exact this) GW982.out) | (rw [add_block]; exact Nat.ne_of_lt (Nat.lt_of_lt_of_le (by have := bq_' _ _ hw977_1; first | rwa [add_block] at this | exact this) GW982.out)) | (show (Addr.add _ _).block ≠ _; rw [add_block]; exact Nat.ne_of_lt (Nat.lt_of_lt_of_le (by have := bq_' _ _ hw977_1; first | rwa [add_block] at this | exact this) GW982.out)) | (dsimp only; exact Nat.ne_of_lt (Nat.lt_of_lt_of_le (by have := bq_' _ _ hw977_1; first | rwa [add_block] at this | exact this) GW982.out))) _).trans (((cell_far (p := ⟨gb982, _, none⟩) (by first | exact Nat.ne_of_lt (Nat.lt_of_lt_of_le (by have := bq_' _ _ hw977_1; first | rwa [add_block] at this | exact this) GW982.out) | (rw [add_block]; exact Nat.ne_of_lt (Nat.lt_of_lt_of_le (by have := bq_' _ _ hw977_1; first | rwa [add_block] at this | exact this) GW982.out)) | (show (Addr.add _ _).block ≠ _; rw [add_block]; exact Nat.ne_of_lt (Nat.lt_of_lt_of_le (by have := bq_' _ _ hw977_1; first | rwa [add_block] at this | exact this) GW982.out)) | (dsimp only; exact Nat.ne_of_lt (Nat.lt_of_lt_of_le (by have := bq_' _ _ hw977_1; first | rwa [add_block] at this | exact this) GW982.out))) _).trans (hHeld.2.1)))), ((cell_far (p := ⟨gb982, _, none⟩) (by first | exact Nat.ne_of_lt (Nat.lt_of_lt_of_le (by have := bq_' _ _ hw978_0; first | rwa [add_block] at this | exact this) GW982.out) | (rw [add_block]; exact Nat.ne_of_lt (Nat.lt_of_lt_of_le (by have := bq_' _ _ hw978_0; first | rwa [add_block] at this | exact this) GW982.out)) | (show (Addr.add _ _).block ≠ _; rw [add_block]; exact Nat.ne_of_lt (Nat.lt_of_lt_of_le (by have := bq_' _ _ hw978_0; first | rwa [add_block] at this | exact this) GW982.out)) | (dsimp only; exact Nat.ne_of_lt (Nat.lt_of_lt_of_le (by have := bq_' _ _ hw978_0; first | rwa [add_block] at this | exact this) GW982.out))) _).trans (((cell_far (p := ⟨gb982, _, none⟩) (by first | exact Nat.ne_of_lt (Nat.lt_of_lt_of_le (by have := bq_' _ _ hw978_0; first | rwa [add_block] at this | exact this) GW982.out) | (rw [add_block]; exact Nat.ne_of_lt (Nat.lt_of_lt_of_le (by have := bq_' _ _ hw978_0; first | rwa [add_block] at this | exact this) GW982.out)) | (show (Addr.add _ _).block ≠ _; rw [add_block]; exact Nat.ne_of_lt (Nat.lt_of_lt_of_le (by have := bq_' _ _ hw978_0; first | rwa [add_block] at this | exact this) GW982.out)) | (dsimp only; exact Nat.ne_of_lt (Nat.lt_of_lt_of_le (by have := bq_' _ _ hw978_0; first | rwa [add_block] at this | exact this) GW982.out))) _).trans (hHeld.2.2.1)))), ((cell_far (p := ⟨gb982, _, none⟩) (by first | exact Nat.ne_of_lt (Nat.lt_of_lt_of_le (by have := bq_' _ _ hw978_1; first | rwa [add_block] at this | exact this) GW982.out) | (rw [add_block]; exact Nat.ne_of_lt (Nat.lt_of_lt_of_le (by have := bq_' _ _ hw978_1; first | rwa [add_block] at this | exact this) GW982.out)) | (show (Addr.add _ _).block ≠ _; rw [add_block]; exact Nat.ne_of_lt (Nat.lt_of_lt_of_le (by have := bq_' _ _ hw978_1; first | rwa [add_block] at this | exact this) GW982.out)) | (dsimp only; exact Nat.ne_of_lt (Nat.lt_of_lt_of_le (by have := bq_' _ _ hw978_1; first | rwa [add_block] at this | exact this) GW982.out))) _).trans (((cell_far (p := ⟨gb982, _, none⟩) (by first | exact Nat.ne_of_lt (Nat.lt_of_lt_of_le (by have := bq_' _ _ hw978_1; first | rwa [add_block] at this | exact this) GW982.out) | (rw [add_block]; exact Nat.ne_of_lt (Nat.lt_of_lt_of_le (by have := bq_' _ _ hw978_1; first | rwa [add_block] at this | exact this) GW982.out)) | (show (Addr.add _ _).block ≠ _; rw [add_block]; exact Nat.ne_of_lt (Nat.lt_of_lt_of_le (by have := bq_' _ _ hw978_1; first | rwa [add_block] at this | exact this) GW982.out)) | (dsimp only; exact Nat.ne_of_lt (Nat.lt_of_lt_of_le (by have := bq_' _ _ hw978_1; first | rwa [add_block] at this | exact this) GW982.out))) _).trans (hHeld.2.2.2))))⟩ (fun hHeld => ?_)
             clear hK K
             refine pure_ (i := 19) (N := some 10) (v := ?_) (a' := ?_) #[true, true, true, true, true, true, true, true, true, true, true, true, true, true, true, true, true, true, true, true] rfl rfl (any_of HT_.out (by kernel_rfl)) (fun _ _ _ h => h) (Or.inl ⟨by rfl, ?_⟩) ?_ ?_
             rotate_left
             ·
              intro w'
              go_simp
              with_reducible rfl
             rotate_left
             ·
              simp only [Act.put, sa_', sz_', sc_', i64_w, i32_w]
              rfl
             refine done_ (done_of HT_.out (by kernel_rfl)) ?_
             have hnb35 := NB973_970.out
             have hnc35 := NB970_973.out
             have hnb36 := NB973_982.out
             have hnc36 := NB982_973.out
             have hcz37_0 : w32.cell? ⟨gb973, 0, none⟩ = some (.int .i64 x974000_2) := (kc_' BK973.out 0).trans rfl
             have hcz37_1 : w32.cell? ⟨gb973, 1, none⟩ = some (.int .i64 x974001_2) := (kc_' BK973.out 1).trans rfl
             have hfz37_0 := kf_' BK973.out 0
             have hfz37_1 := kf_' BK973.out 1
             have hnb38 := NB982_970.out
             have hnc38 := NB970_982.out
             have hcz39_0 : w32.cell? ⟨gb982, 0, none⟩ = some (.int .i64 0) := (kc_' BK982.out 0).trans rfl
             have hcz39_1 : w32.cell? ⟨gb982, 1, none⟩ = some (.int .i64 0) := (kc_' BK982.out 1).trans rfl
             have hfz39_0 := kf_' BK982.out 0
             have hfz39_1 := kf_' BK982.out 1
             try go_wp2_with (first | ((with_reducible refine xj_' (f := 148) rfl ?_); refine goesL_ (some 72) rfl rfl Try.func148 (by kernel_rfl) rfl #[.agg #[.int .i64 x974000_2, .int .i64 x974001_2], .agg #[.int .i64 t979, .int .i64 t980]] rfl (by (try simp only [xm_', xc_', xn_']); first | done | rfl | (simp only [xd_', xt_']; rfl)) ?_; (with_reducible refine (spec_AddRatio.calls kj18 x974000_2 x974001_2 t979 t980 t983 t984 true _ A27.out).mono ?_); rintro e w40 ⟨rfl, hb⟩; refine ⟨_, rfl, ?_⟩; have n0_ := sk_' (blk_below (g := gb970) (o := .cells #[.int .i64 x971000_2, .int .i64 x971001_2] 134 (0, 0)) (by (with_reducible repeat (first | refine kn_' ?_ _ | refine kd_' ?_ | refine ka_' ?_ _)); refine blk_far ?_ NB970_982.out _; (with_reducible repeat (first | refine kn_' ?_ _ | refine kd_' ?_ | refine ka_' ?_ _)); refine blk_far ?_ NB970_982.out _; (with_reducible repeat (first | refine kn_' ?_ _ | refine kd_' ?_ | refine ka_' ?_ _)); exact BK970.out) hb); have n1_ := sk_' (blk_below (g := gb973) (o := .cells #[.int .i64 x974000_2, .int .i64 x974001_2] 134 (0, 0)) (by (with_reducible repeat (first | refine kn_' ?_ _ | refine kd_' ?_ | refine ka_' ?_ _)); refine blk_far ?_ NB973_982.out _; (with_reducible repeat (first | refine kn_' ?_ _ | refine kd_' ?_ | refine ka_' ?_ _)); refine blk_far ?_ NB973_982.out _; (with_reducible repeat (first | refine kn_' ?_ _ | refine kd_' ?_ | refine ka_' ?_ _)); exact BK973.out) hb); have n2_ := sk_' (blk_below (g := gb982) (o := .cells #[.int .i64 t979, .int .i64 t980] 134 (0, 0)) (by (with_reducible repeat (first | refine kn_' ?_ _ | refine kd_' ?_ | refine ka_' ?_ _)); refine blk_put (cs := #[.int .i64 t979, .int .i64 0]) ?_ 1 _ rfl; (with_reducible repeat (first | refine kn_' ?_ _ | refine kd_' ?_ | refine ka_' ?_ _)); refine blk_put (cs := #[.int .i64 0, .int .i64 0]) ?_ 0 _ rfl; (with_reducible repeat (first | refine kn_' ?_ _ | refine kd_' ?_ | refine ka_' ?_ _)); exact BK982.out) hb); have n3_ := sk_' (pp_' (by repeat (first | (with_reducible first | exact HB.out | apply pa_' | apply pn_' | apply pd_' | refine pt_' ?_ GE970.out | refine pt_' ?_ GE973.out | refine pt_' ?_ GE982.out) | exact HB.out)) hb); clear BK970; clear BK973; clear BK982; clear HB; have BK970 := n0_; have BK973 := n1_; have BK982 := n2_; have HB := n3_; clear n0_ n1_ n2_ n3_; (try clear hb); (try clear hb2); (try clear hk); (try clear hi)) | ((with_reducible refine gate_dst (N := 11) rfl ?_); refine box_event ?hg (N := 11) ?hd (cs := #[.int .i64 0, .int .i64 0]) (t := 134) ?hr ?_; (case hd => rfl); (case hg => rfl); (case hr => first | (go_simp; done) | (go_simp; rfl)); intro gb986 hg w41 hbox hb; have n0_ := sk_' (blk_below (g := gb970) (o := .cells #[.int .i64 x971000_2, .int .i64 x971001_2] 134 (0, 0)) (by (with_reducible repeat (first | refine kn_' ?_ _ | refine kd_' ?_ | refine ka_' ?_ _)); exact BK970.out) hb); have n1_ := sk_' (blk_below (g := gb973) (o := .cells #[.int .i64 x974000_2, .int .i64 x974001_2] 134 (0, 0)) (by (with_reducible repeat (first | refine kn_' ?_ _ | refine kd_' ?_ | refine ka_' ?_ _)); exact BK973.out) hb); have n2_ := sk_' (blk_below (g := gb982) (o := .cells #[.int .i64 t979, .int .i64 t980] 134 (0, 0)) (by (with_reducible repeat (first | refine kn_' ?_ _ | refine kd_' ?_ | refine ka_' ?_ _)); exact BK982.out) hb); have n3_ := sk_' (pp_' (by repeat (first | (with_reducible first | exact HB.out | apply pa_' | apply pn_' | apply pd_' | refine pt_' ?_ GE970.out | refine pt_' ?_ GE973.out | refine pt_' ?_ GE982.out) | exact HB.out)) hb); have n4_ := sk_' (hbox); have n5_ := sk_' ((by rw [hg]; exact (ps_' (by repeat (first | (with_reducible first | exact HB.out | apply pa_' | apply pn_' | apply pd_' | refine pt_' ?_ GE970.out | refine pt_' ?_ GE973.out | refine pt_' ?_ GE982.out) | exact HB.out))) : w.heap.size ≤ gb986)); have n6_ := sk_' ((by rw [hg]; exact (ps_' (by repeat (first | (with_reducible first | exact HB.out | apply pa_' | apply pn_' | apply pd_' | refine pt_' ?_ GE970.out | refine pt_' ?_ GE973.out | refine pt_' ?_ GE982.out) | exact HB.out))) : w.heap.size ≤ gb986)); have n7_ := sk_' ((by rw [hg]; exact Nat.ne_of_lt (blk_lt (g := gb970) (o := .cells #[.int .i64 x971000_2, .int .i64 x971001_2] 134 (0, 0)) (by (with_reducible repeat (first | refine kn_' ?_ _ | refine kd_' ?_ | refine ka_' ?_ _)); exact BK970.out)) : gb970 ≠ gb986)); have n8_ := sk_' ((by rw [hg]; exact Nat.ne_of_gt (blk_lt (g := gb970) (o := .cells #[.int .i64 x971000_2, .int .i64 x971001_2] 134 (0, 0)) (by (with_reducible repeat (first | refine kn_' ?_ _ | refine kd_' ?_ | refine ka_' ?_ _)); exact BK970.out)) : gb986 ≠ gb970)); have n9_ := sk_' ((by rw [hg]; exact Nat.ne_of_lt (blk_lt (g := gb973) (o := .cells #[.int .i64 x974000_2, .int .i64 x974001_2] 134 (0, 0)) (by (with_reducible repeat (first | refine kn_' ?_ _ | refine kd_' ?_ | refine ka_' ?_ _)); exact BK973.out)) : gb973 ≠ gb986)); have n10_ := sk_' ((by rw [hg]; exact Nat.ne_of_gt (blk_lt (g := gb973) (o := .cells #[.int .i64 x974000_2, .int .i64 x974001_2] 134 (0, 0)) (by (with_reducible repeat (first | refine kn_' ?_ _ | refine kd_' ?_ | refine ka_' ?_ _)); exact BK973.out)) : gb986 ≠ gb973)); have n11_ := sk_' ((by rw [hg]; exact Nat.ne_of_lt (blk_lt (g := gb982) (o := .cells #[.int .i64 t979, .int .i64 t980] 134 (0, 0)) (by (with_reducible repeat (first | refine kn_' ?_ _ | refine kd_' ?_ | refine ka_' ?_ _)); exact BK982.out)) : gb982 ≠ gb986)); have n12_ := sk_' ((by rw [hg]; exact Nat.ne_of_gt (blk_lt (g := gb982) (o := .cells #[.int .i64 t979, .int .i64 t980] 134 (0, 0)) (by (with_reducible repeat (first | refine kn_' ?_ _ | refine kd_' ?_ | refine ka_' ?_ _)); exact BK982.out)) : gb986 ≠ gb982)); clear BK970; clear BK973; clear BK982; clear HB; have BK970 := n0_; have BK973 := n1_; have BK982 := n2_; have HB := n3_; have BK986 := n4_; have GW986 := n5_; have GE986 := n6_; have NB970_986 := n7_; have NB986_970 := n8_; have NB973_986 := n9_; have NB986_973 := n10_; have NB982_986 := n11_; have NB986_982 := n12_; clear n0_ n1_ n2_ n3_ n4_ n5_ n6_ n7_ n8_ n9_ n10_ n11_ n12_; clear hb hbox hg; have hnb42 := NB986_970.out; have hnc42 := NB970_986.out; have hnb43 := NB986_973.out; have hnc43 := NB973_986.out; have hnb44 := NB986_982.out; have hnc44 := NB982_986.out; have hcz45_0 : w41.cell? ⟨gb986, 0, none⟩ = some (.int .i64 0) := (kc_' BK986.out 0).trans rfl; have hcz45_1 : w41.cell? ⟨gb986, 1, none⟩ = some (.int .i64 0) := (kc_' BK986.out 1).trans rfl; have hfz45_0 := kf_' BK986.out 0; have hfz45_1 := kf_' BK986.out 1; have hcz46_0 : w41.cell? ⟨gb973, 0, none⟩ = some (.int .i64 x974000_2) := (kc_' BK973.out 0).trans rfl; have hcz46_1 : w41.cell? ⟨gb973, 1, none⟩ = some (.int .i64 x974001_2) := (kc_' BK973.out 1).trans rfl; have hfz46_0 := kf_' BK973.out 0; have hfz46_1 := kf_' BK973.out 1))
             go_roundg kj18
             case measure => have := HJ2.out; have := HK2.out; have := HJ14.out; have := HJ18.out; omega
             case rel => exact ⟨(wrap64 (x7_2 + 1)), (x971000_2), (x971001_2), (t983), (t984), (by first | rfl | (simp; done) | (simp [*]; done)), H', ⟨by have := HJ2.out; have := HK2.out; have := HJ14.out; have := HJ18.out; omega⟩, ⟨by (with_reducible repeat (first | refine kn_' ?_ _ | refine kd_' ?_ | refine ka_' ?_ _)); refine blk_far ?_ NB970_973.out _; (with_reducible repeat (first | refine kn_' ?_ _ | refine kd_' ?_ | refine ka_' ?_ _)); refine blk_far ?_ NB970_973.out _; (with_reducible repeat (first | refine kn_' ?_ _ | refine kd_' ?_ | refine ka_' ?_ _)); refine blk_far ?_ NB970_986.out _; (with_reducible repeat (first | refine kn_' ?_ _ | refine kd_' ?_ | refine ka_' ?_ _)); refine blk_far ?_ NB970_986.out _; (with_reducible repeat (first | refine kn_' ?_ _ | refine kd_' ?_ | refine ka_' ?_ _)); exact BK970.out⟩, ⟨by (with_reducible repeat (first | refine kn_' ?_ _ | refine kd_' ?_ | refine ka_' ?_ _)); refine blk_put (cs := #[.int .i64 t983, .int .i64 x974001_2]) ?_ 1 _ rfl; (with_reducible repeat (first | refine kn_' ?_ _ | refine kd_' ?_ | refine ka_' ?_ _)); refine blk_put (cs := #[.int .i64 x974000_2, .int .i64 x974001_2]) ?_ 0 _ rfl; (with_reducible repeat (first | refine kn_' ?_ _ | refine kd_' ?_ | refine ka_' ?_ _)); refine blk_far ?_ NB973_986.out _; (with_reducible repeat (first | refine kn_' ?_ _ | refine kd_' ?_ | refine ka_' ?_ _)); refine blk_far ?_ NB973_986.out _; (with_reducible repeat (first | refine kn_' ?_ _ | refine kd_' ?_ | refine ka_' ?_ _)); exact BK973.out⟩, ⟨by repeat (first | (with_reducible first | exact HB.out | apply pa_' | apply pn_' | apply pd_' | refine pt_' ?_ GE970.out | refine pt_' ?_ GE973.out | refine pt_' ?_ GE982.out | refine pt_' ?_ GE986.out) | exact HB.out)⟩⟩
            replace c28 := Bool.eq_false_iff.mpr c28
            subst c28
            rw [if_neg (show ¬ (false = true) by decide)] at H
            simp only [Option.some.injEq, Prod.mk.injEq] at H
            obtain ⟨rfl, rfl, rfl⟩ := H
            try go_wp2
            have n0_ := sk_' (kd_' BK970.out)
            have n1_ := sk_' (kd_' BK973.out)
            have n2_ := sk_' (pd_' HB.out)
            clear BK970
            clear BK973
            clear HB
            have BK970 := n0_
            have BK973 := n1_
            have HB := n2_
            clear n0_ n1_ n2_
            have p977 : 0 ≤ (x7_2 : Int) := od_' (by first | (with_reducible assumption) | assumption)
            have q977 : x7_2 < (l0.length : Int) := od_' (by first | (with_reducible assumption) | assumption)
            obtain ⟨ad977, e977, hx977_0, hx977_1⟩ := at_T140 HR0.out x7_2 p977 q977
            have hw977_1 := hx977_1
            have hw977_0 := hx977_0
            cases e977
            replace hx977_0 := (HB.out.cell (bq_' w _ hx977_0)).trans hx977_0
            replace hx977_1 := (HB.out.cell (bq_' w _ hx977_1)).trans hx977_1
            replace p977 := eq_true p977
            replace q977 := eq_true q977
            have p978 : 0 ≤ (x7_2 : Int) := od_' (by first | (with_reducible assumption) | assumption)
            have q978 : x7_2 < (l0.length : Int) := od_' (by first | (with_reducible assumption) | assumption)
            obtain ⟨ad978, e978, hx978_0, hx978_1⟩ := at_T140 HR0.out x7_2 p978 q978
            have hw978_1 := hx978_1
            have hw978_0 := hx978_0
            obtain rfl : ad977 = ad978 := (by injection e978)
            replace hx978_0 := (HB.out.cell (bq_' w _ hx978_0)).trans hx978_0
            replace hx978_1 := (HB.out.cell (bq_' w _ hx978_1)).trans hx978_1
            replace p978 := eq_true p978
            replace q978 := eq_true q978
            refine start_ (n := 20) (S := fun w' => w'.cell? (ad977.add ((x7_2).toNat * 2)) = some (.int .i64 ((rd_T140 l0 x7_2).f0)) ∧ w'.cell? ⟨(ad977.add ((x7_2).toNat * 2)).block, (ad977.add ((x7_2).toNat * 2)).off + 1, none⟩ = some (.int .i64 ((rd_T140 l0 x7_2).f1)) ∧ w'.cell? (ad977.add ((x7_2).toNat * 2)) = some (.int .i64 ((rd_T140 l0 x7_2).f0)) ∧ w'.cell? ⟨(ad977.add ((x7_2).toNat * 2)).block, (ad977.add ((x7_2).toNat * 2)).off + 1, none⟩ = some (.int .i64 ((rd_T140 l0 x7_2).f1))) (ds := []) #[false, false, false, false, false, false, false, false, false, false, false, false, false, false, false, false, false, false, false, false] (by kernel_rfl) rfl rfl ⟨((HB.out.cell (bq_' w _ hw977_0)).trans hw977_0), ((HB.out.cell (bq_' w _ hw977_1)).trans hw977_1), ((HB.out.cell (bq_' w _ hw978_0)).trans hw978_0), ((HB.out.cell (bq_' w _ hw978_1)).trans hw978_1)⟩ (fun hHeld => ?_); refine with_tabW spec_TimeOf.tab10 spec_TimeOf.bits10 (fun HT_ HW_ => ?_)
            generalize wc.drew = w47 at BK970 BK973 HB hx977_0 hx977_1 hx978_0 hx978_1 hHeld ⊢
            refine pure_ (i := 0) (N := some 53) (v := ?_) (a' := ?_) #[true, false, false, false, false, false, false, false, false, false, false, false, false, false, false, false, false, false, false, false] rfl rfl (any_of HT_.out (by kernel_rfl)) (fun _ _ _ h => h) (Or.inl ⟨by rfl, ?_⟩) ?_ ?_
            rotate_left
            ·
             intro w'
             go_simp
             with_reducible rfl
            rotate_left
            ·
             simp only [Act.put, sa_', sz_', sc_', i64_w, i32_w]
             rfl
            refine pure_ (i := 1) (N := some 54) (v := ?_) (a' := ?_) #[true, true, false, false, false, false, false, false, false, false, false, false, false, false, false, false, false, false, false, false] rfl rfl (any_of HT_.out (by kernel_rfl)) (fun _ _ _ h => h) (Or.inl ⟨by rfl, ?_⟩) ?_ ?_
            rotate_left
            ·
             intro w'
             go_simp
             with_reducible rfl
            rotate_left
            ·
             simp only [Act.put, sa_', sz_', sc_', i64_w, i32_w]
             rfl
            refine pure_ (i := 2) (N := some 55) (v := ?_) (a' := ?_) #[true, true, true, false, false, false, false, false, false, false, false, false, false, false, false, false, false, false, false, false] rfl rfl (any_of HT_.out (by kernel_rfl)) (fun _ _ _ h => h) (Or.inl ⟨by rfl, ?_⟩) ?_ ?_
            rotate_left
            ·
             intro w'
             go_simp
             with_reducible rfl
            rotate_left
            ·
             simp only [Act.put, sa_', sz_', sc_', i64_w, i32_w]
             rfl
            refine pure_ (i := 3) (N := some 56) (v := ?_) (a' := ?_) #[true, true, true, true, false, false, false, false, false, false, false, false, false, false, false, false, false, false, false, false] rfl rfl (any_of HT_.out (by kernel_rfl)) (fun _ _ _ h => h) (Or.inl ⟨by rfl, ?_⟩) ?_ ?_
            rotate_left
            ·
             intro w'
             go_simp
             with_reducible rfl
            rotate_left
            ·
             simp only [Act.put, sa_', sz_', sc_', i64_w, i32_w]
             rfl
            refine pure_ (i := 4) (N := some 57) (v := ?_) (a' := ?_) #[true, true, true, true, true, false, false, false, false, false, false, false, false, false, false, false, false, false, false, false] rfl rfl (any_of HT_.out (by kernel_rfl)) (fun _ _ _ h => h) (Or.inl ⟨by rfl, ?_⟩) ?_ ?_
            rotate_left
            ·
             intro w'
             go_simp
             with_reducible rfl
            rotate_left
            ·
             simp only [Act.put, sa_', sz_', sc_', i64_w, i32_w]
             rfl
            refine pure_ (i := 8) (N := some 61) (v := ?_) (a' := ?_) #[true, true, true, true, true, false, false, false, true, false, false, false, false, false, false, false, false, false, false, false] rfl rfl (any_of HT_.out (by kernel_rfl)) (fun _ _ _ h => h) (Or.inl ⟨by rfl, ?_⟩) ?_ ?_
            rotate_left
            ·
             intro w'
             go_simp
             with_reducible rfl
            rotate_left
            ·
             simp only [Act.put, sa_', sz_', sc_', i64_w, i32_w]
             rfl
            refine pure_ (i := 9) (N := some 62) (v := ?_) (a' := ?_) #[true, true, true, true, true, false, false, false, true, true, false, false, false, false, false, false, false, false, false, false] rfl rfl (any_of HT_.out (by kernel_rfl)) (fun _ _ _ h => h) (Or.inl ⟨by rfl, ?_⟩) ?_ ?_
            rotate_left
            ·
             intro w'
             go_simp
             with_reducible rfl
            rotate_left
            ·
             simp only [Act.put, sa_', sz_', sc_', i64_w, i32_w]
             rfl
            refine pure_ (i := 10) (N := some 63) (v := ?_) (a' := ?_) #[true, true, true, true, true, false, false, false, true, true, true, false, false, false, false, false, false, false, false, false] rfl rfl (any_of HT_.out (by kernel_rfl)) (fun _ _ _ h => h) (Or.inl ⟨by rfl, ?_⟩) ?_ ?_
            rotate_left
            ·
             intro w'
             go_simp
             with_reducible rfl
            rotate_left
            ·
             simp only [Act.put, sa_', sz_', sc_', i64_w, i32_w]
             rfl
            refine pure_ (i := 11) (N := some 64) (v := ?_) (a' := ?_) #[true, true, true, true, true, false, false, false, true, true, true, true, false, false, false, false, false, false, false, false] rfl rfl (any_of HT_.out (by kernel_rfl)) (fun _ _ _ h => h) (Or.inl ⟨by rfl, ?_⟩) ?_ ?_
            rotate_left
            ·
             intro w'
             go_simp
             with_reducible rfl
            rotate_left
            ·
             simp only [Act.put, sa_', sz_', sc_', i64_w, i32_w]
             rfl
            refine take_ (i := 5) (N := some 58) (v := ?_) (a' := ?_) #[true, true, true, true, true, true, false, false, true, true, true, true, false, false, false, false, false, false, false, false] rfl rfl (take_ofW HT_.out HW_.out (by kernel_rfl)) (fun _ _ _ h => h) (Or.inl ⟨by rfl, ?_⟩) hHeld ?_ ?_
            rotate_left
            ·
             rintro w' ⟨s0, s1, s2, s3⟩
             go_simp
             with_reducible rfl
            rotate_left
            ·
             simp only [Act.put, sa_', sz_', sc_', i64_w, i32_w]
             rfl
            refine pure_ (i := 6) (N := some 59) (v := ?_) (a' := ?_) #[true, true, true, true, true, true, true, false, true, true, true, true, false, false, false, false, false, false, false, false] rfl rfl (any_of HT_.out (by kernel_rfl)) (fun _ _ _ h => h) (Or.inl ⟨by rfl, ?_⟩) ?_ ?_
            rotate_left
            ·
             intro w'
             go_simp
             with_reducible rfl
            rotate_left
            ·
             simp only [Act.put, sa_', sz_', sc_', i64_w, i32_w]
             rfl
            refine pure_ (i := 7) (N := some 60) (v := ?_) (a' := ?_) #[true, true, true, true, true, true, true, true, true, true, true, true, false, false, false, false, false, false, false, false] rfl rfl (any_of HT_.out (by kernel_rfl)) (fun _ _ _ h => h) (Or.inl ⟨by rfl, ?_⟩) ?_ ?_
            rotate_left
            ·
             intro w'
             go_simp
             with_reducible rfl
            rotate_left
            ·
             simp only [Act.put, sa_', sz_', sc_', i64_w, i32_w]
             rfl
            refine take_ (i := 12) (N := some 65) (v := ?_) (a' := ?_) #[true, true, true, true, true, true, true, true, true, true, true, true, true, false, false, false, false, false, false, false] rfl rfl (take_ofW HT_.out HW_.out (by kernel_rfl)) (fun _ _ _ h => h) (Or.inl ⟨by rfl, ?_⟩) hHeld ?_ ?_
            rotate_left
            ·
             rintro w' ⟨s0, s1, s2, s3⟩
             go_simp
             with_reducible rfl
            rotate_left
            ·
             simp only [Act.put, sa_', sz_', sc_', i64_w, i32_w]
             rfl
            refine join_ (σ := Nat) 2 #[true, true, true, true, true, true, true, true, true, true, true, true, true, true, true, true, true, true, false, false] (fun s_ => [(66, .tuple #[.agg #[.int .i64 t979, .int .i64 t980], .bool t981]), (9, .pointer (some ⟨s_, 0, none⟩)), (52, .tuple #[.agg #[.int .i64 t979, .int .i64 t980], .bool t981]), (67, .agg #[.int .i64 t979, .int .i64 t980]), (68, .bool t981)]) (fun s_ w' => (w'.cell? (ad977.add ((x7_2).toNat * 2)) = some (.int .i64 ((rd_T140 l0 x7_2).f0)) ∧ w'.cell? ⟨(ad977.add ((x7_2).toNat * 2)).block, (ad977.add ((x7_2).toNat * 2)).off + 1, none⟩ = some (.int .i64 ((rd_T140 l0 x7_2).f1)) ∧ w'.cell? (ad977.add ((x7_2).toNat * 2)) = some (.int .i64 ((rd_T140 l0 x7_2).f0)) ∧ w'.cell? ⟨(ad977.add ((x7_2).toNat * 2)).block, (ad977.add ((x7_2).toNat * 2)).off + 1, none⟩ = some (.int .i64 ((rd_T140 l0 x7_2).f1))) ∧ (w'.heap[gb970]? = some (.cells #[.int .i64 x971000_2, .int .i64 x971001_2] 134 (0, 0))) ∧ (w'.heap[gb973]? = some (.cells #[.int .i64 x974000_2, .int .i64 x974001_2] 134 (0, 0))) ∧ (w'.heap[s_]? = some (.cells #[.int .i64 0, .int .i64 0] 134 (0, 0))) ∧ (w.heap.size ≤ s_) ∧ (w.heap.size ≤ s_) ∧ (gb970 ≠ s_) ∧ (s_ ≠ gb970) ∧ (gb973 ≠ s_) ∧ (s_ ≠ gb973) ∧ (Below w.heap.size w w')) ?_ ?_
            rotate_left
            ·
             intro hCont
             refine two_ (i := 13) (j := 17) (Ni := some 66) (Nj := some 9) #[true, true, true, true, true, true, true, true, true, true, true, true, true, true, false, false, false, false, false, false] #[true, true, true, true, true, true, true, true, true, true, true, true, true, false, false, false, false, true, false, false] rfl rfl rfl rfl (two_of HT_.out (by kernel_rfl)) (by decide) (by decide) (fun K hK => ?_) (fun K hK => ?_)
             ·
              skip
              refine goes_ Try.func147 (by kernel_rfl) rfl #[.int .i64 (wrap64 ((wrap64 (x8_18 - ((rd_T140 l0 x7_2).f0))) * 5000)), .int .i64 ((rd_T140 l0 x7_2).f1)] (by rfl) rfl rfl (by (try simp only [xm_', xc_', xn_']); first | done | rfl | (simp only [xd_', xt_']; rfl)) ?_
              with_reducible refine (spec_MakeRatio.calls kj18 (wrap64 ((wrap64 (x8_18 - ((rd_T140 l0 x7_2).f0))) * 5000)) ((rd_T140 l0 x7_2).f1) t979 t980 t981 _ A26.out).mono ?_
              rintro e w48 ⟨rfl, hb⟩
              refine ⟨_, rfl, ?_⟩
              have n0_ := sk_' (blk_below (g := gb970) (o := .cells #[.int .i64 x971000_2, .int .i64 x971001_2] 134 (0, 0)) (km BK970) hb)
              have n1_ := sk_' (blk_below (g := gb973) (o := .cells #[.int .i64 x974000_2, .int .i64 x974001_2] 134 (0, 0)) (km BK973) hb)
              have n2_ := sk_' (pp_' (bm HB) hb)
              clear BK970
              clear BK973
              clear HB
              have BK970 := n0_
              have BK973 := n1_
              have HB := n2_
              clear n0_ n1_ n2_
              (try clear hb)
              (try clear hb2)
              (try clear hk)
              (try clear hi)
              refine hK.out _ _ ⟨((HB.out.cell (bq_' w _ hw977_0)).trans hw977_0), ((HB.out.cell (bq_' w _ hw977_1)).trans hw977_1), ((HB.out.cell (bq_' w _ hw978_0)).trans hw978_0), ((HB.out.cell (bq_' w _ hw978_1)).trans hw978_1)⟩ (fun hHeld => ?_)
              clear hK K
              refine norm_ (a' := ?_) ?_ ?_
              rotate_left
              ·
               show Act.put _ (some 66) _ = _
               simp only [Act.put, sa_', sz_', sc_', i64_w, i32_w]
               rfl
              refine pure_ (i := 14) (N := some 52) (v := ?_) (a' := ?_) #[true, true, true, true, true, true, true, true, true, true, true, true, true, true, true, false, false, false, false, false] rfl rfl (any_of HT_.out (by kernel_rfl)) (fun _ _ _ h => h) (Or.inl ⟨by rfl, ?_⟩) ?_ ?_
              rotate_left
              ·
               intro w'
               go_simp
               with_reducible rfl
              rotate_left
              ·
               simp only [Act.put, sa_', sz_', sc_', i64_w, i32_w]
               rfl
              refine pure_ (i := 15) (N := some 67) (v := ?_) (a' := ?_) #[true, true, true, true, true, true, true, true, true, true, true, true, true, true, true, true, false, false, false, false] rfl rfl (any_of HT_.out (by kernel_rfl)) (fun _ _ _ h => h) (Or.inl ⟨by rfl, ?_⟩) ?_ ?_
              rotate_left
              ·
               intro w'
               go_simp
               with_reducible rfl
              rotate_left
              ·
               simp only [Act.put, sa_', sz_', sc_', i64_w, i32_w]
               rfl
              refine pure_ (i := 16) (N := some 68) (v := ?_) (a' := ?_) #[true, true, true, true, true, true, true, true, true, true, true, true, true, true, true, true, true, false, false, false] rfl rfl (any_of HT_.out (by kernel_rfl)) (fun _ _ _ h => h) (Or.inl ⟨by rfl, ?_⟩) ?_ ?_
              rotate_left
              ·
               intro w'
               go_simp
               with_reducible rfl
              rotate_left
              ·
               simp only [Act.put, sa_', sz_', sc_', i64_w, i32_w]
               rfl
              refine one_ (i := 17) (N := some 9) #[true, true, true, true, true, true, true, true, true, true, true, true, true, true, true, true, true, true, false, false] rfl rfl (one_of HT_.out (by kernel_rfl)) (by decide) (fun K hK => ?_)
              refine box_step ?hg (N := 9) ?hd (cs := #[.int .i64 0, .int .i64 0]) (t := 134) ?hr ?_; (case hd => rfl); (case hg => rfl); (case hr => first | (go_simp; done) | (go_simp; rfl))
              intro gb982 hg w49 hbox hb
              have n0_ := sk_' (blk_below (g := gb970) (o := .cells #[.int .i64 x971000_2, .int .i64 x971001_2] 134 (0, 0)) (km BK970) hb)
              have n1_ := sk_' (blk_below (g := gb973) (o := .cells #[.int .i64 x974000_2, .int .i64 x974001_2] 134 (0, 0)) (km BK973) hb)
              have n2_ := sk_' (pp_' (bm HB) hb)
              have n3_ := sk_' (hbox)
              have n4_ := sk_' ((by rw [hg]; exact (ps_' (bm HB)) : w.heap.size ≤ gb982))
              have n5_ := sk_' ((by rw [hg]; exact (ps_' (bm HB)) : w.heap.size ≤ gb982))
              have n6_ := sk_' ((by rw [hg]; exact Nat.ne_of_lt (blk_lt (g := gb970) (o := .cells #[.int .i64 x971000_2, .int .i64 x971001_2] 134 (0, 0)) (km BK970)) : gb970 ≠ gb982))
              have n7_ := sk_' ((by rw [hg]; exact Nat.ne_of_gt (blk_lt (g := gb970) (o := .cells #[.int .i64 x971000_2, .int .i64 x971001_2] 134 (0, 0)) (km BK970)) : gb982 ≠ gb970))
              have n8_ := sk_' ((by rw [hg]; exact Nat.ne_of_lt (blk_lt (g := gb973) (o := .cells #[.int .i64 x974000_2, .int .i64 x974001_2] 134 (0, 0)) (km BK973)) : gb973 ≠ gb982))
              have n9_ := sk_' ((by rw [hg]; exact Nat.ne_of_gt (blk_lt (g := gb973) (o := .cells #[.int .i64 x974000_2, .int .i64 x974001_2] 134 (0, 0)) (km BK973)) : gb982 ≠ gb973))
              clear BK970
              clear BK973
              clear HB
              have BK970 := n0_
              have BK973 := n1_
              have HB := n2_
              have BK982 := n3_
              have GW982 := n4_
              have GE982 := n5_
              have NB970_982 := n6_
              have NB982_970 := n7_
              have NB973_982 := n8_
              have NB982_973 := n9_
              clear n0_ n1_ n2_ n3_ n4_ n5_ n6_ n7_ n8_ n9_
              clear hb hbox hg
              refine hK.out _ _ ⟨((HB.out.cell (bq_' w _ hw977_0)).trans hw977_0), ((HB.out.cell (bq_' w _ hw977_1)).trans hw977_1), ((HB.out.cell (bq_' w _ hw978_0)).trans hw978_0), ((HB.out.cell (bq_' w _ hw978_1)).trans hw978_1)⟩ (fun hHeld => ?_)
              clear hK K
              refine norm_ (a' := ?_) ?_ ?_
              rotate_left
              ·
               show Act.put _ (some 9) _ = _
               simp only [Act.put, sa_', sz_', sc_', i64_w, i32_w]
               rfl
              exact norm_ (by simp only [putAll, Act.put, sa_', sz_', sc_']) (hCont (gb982) _ ⟨hHeld, (km BK970), (km BK973), (km BK982), GW982.out, GE982.out, NB970_982.out, NB982_970.out, NB973_982.out, NB982_973.out, (bm HB)⟩)
             skip
             refine box_step ?hg (N := 9) ?hd (cs := #[.int .i64 0, .int .i64 0]) (t := 134) ?hr ?_; (case hd => rfl); (case hg => rfl); (case hr => first | (go_simp; done) | (go_simp; rfl))
             intro gb982 hg w48 hbox hb
             have n0_ := sk_' (blk_below (g := gb970) (o := .cells #[.int .i64 x971000_2, .int .i64 x971001_2] 134 (0, 0)) (km BK970) hb)
             have n1_ := sk_' (blk_below (g := gb973) (o := .cells #[.int .i64 x974000_2, .int .i64 x974001_2] 134 (0, 0)) (km BK973) hb)
             have n2_ := sk_' (pp_' (bm HB) hb)
             have n3_ := sk_' (hbox)
             have n4_ := sk_' ((by rw [hg]; exact (ps_' (bm HB)) : w.heap.size ≤ gb982))
             have n5_ := sk_' ((by rw [hg]; exact (ps_' (bm HB)) : w.heap.size ≤ gb982))
             have n6_ := sk_' ((by rw [hg]; exact Nat.ne_of_lt (blk_lt (g := gb970) (o := .cells #[.int .i64 x971000_2, .int .i64 x971001_2] 134 (0, 0)) (km BK970)) : gb970 ≠ gb982))
             have n7_ := sk_' ((by rw [hg]; exact Nat.ne_of_gt (blk_lt (g := gb970) (o := .cells #[.int .i64 x971000_2, .int .i64 x971001_2] 134 (0, 0)) (km BK970)) : gb982 ≠ gb970))
             have n8_ := sk_' ((by rw [hg]; exact Nat.ne_of_lt (blk_lt (g := gb973) (o := .cells #[.int .i64 x974000_2, .int .i64 x974001_2] 134 (0, 0)) (km BK973)) : gb973 ≠ gb982))
             have n9_ := sk_' ((by rw [hg]; exact Nat.ne_of_gt (blk_lt (g := gb973) (o := .cells #[.int .i64 x974000_2, .int .i64 x974001_2] 134 (0, 0)) (km BK973)) : gb982 ≠ gb973))
             clear BK970
             clear BK973
             clear HB
             have BK970 := n0_
             have BK973 := n1_
             have HB := n2_
             have BK982 := n3_
             have GW982 := n4_
             have GE982 := n5_
             have NB970_982 := n6_
             have NB982_970 := n7_
             have NB973_982 := n8_
             have NB982_973 := n9_
             clear n0_ n1_ n2_ n3_ n4_ n5_ n6_ n7_ n8_ n9_
             clear hb hbox hg
             refine hK.out _ _ ⟨((HB.out.cell (bq_' w _ hw977_0)).trans hw977_0), ((HB.out.cell (bq_' w _ hw977_1)).trans hw977_1), ((HB.out.cell (bq_' w _ hw978_0)).trans hw978_0), ((HB.out.cell (bq_' w _ hw978_1)).trans hw978_1)⟩ (fun hHeld => ?_)
             clear hK K
             refine norm_ (a' := ?_) ?_ ?_
             rotate_left
             ·
              show Act.put _ (some 9) _ = _
              simp only [Act.put, sa_', sz_', sc_', i64_w, i32_w]
              rfl
             refine one_ (i := 13) (N := some 66) #[true, true, true, true, true, true, true, true, true, true, true, true, true, true, false, false, false, true, false, false] rfl rfl (one_of HT_.out (by kernel_rfl)) (by decide) (fun K hK => ?_)
             refine goes_ Try.func147 (by kernel_rfl) rfl #[.int .i64 (wrap64 ((wrap64 (x8_18 - ((rd_T140 l0 x7_2).f0))) * 5000)), .int .i64 ((rd_T140 l0 x7_2).f1)] (by rfl) rfl rfl (by (try simp only [xm_', xc_', xn_']); first | done | rfl | (simp only [xd_', xt_']; rfl)) ?_
             with_reducible refine (spec_MakeRatio.calls kj18 (wrap64 ((wrap64 (x8_18 - ((rd_T140 l0 x7_2).f0))) * 5000)) ((rd_T140 l0 x7_2).f1) t979 t980 t981 _ A26.out).mono ?_
             rintro e w49 ⟨rfl, hb⟩
             refine ⟨_, rfl, ?_⟩
             have n0_ := sk_' (blk_below (g := gb970) (o := .cells #[.int .i64 x971000_2, .int .i64 x971001_2] 134 (0, 0)) (km BK970) hb)
             have n1_ := sk_' (blk_below (g := gb973) (o := .cells #[.int .i64 x974000_2, .int .i64 x974001_2] 134 (0, 0)) (km BK973) hb)
             have n2_ := sk_' (blk_below (g := gb982) (o := .cells #[.int .i64 0, .int .i64 0] 134 (0, 0)) (km BK982) hb)
             have n3_ := sk_' (pp_' (bm HB) hb)
             clear BK970
             clear BK973
             clear BK982
             clear HB
             have BK970 := n0_
             have BK973 := n1_
             have BK982 := n2_
             have HB := n3_
             clear n0_ n1_ n2_ n3_
             (try clear hb)
             (try clear hb2)
             (try clear hk)
             (try clear hi)
             refine hK.out _ _ ⟨((HB.out.cell (bq_' w _ hw977_0)).trans hw977_0), ((HB.out.cell (bq_' w _ hw977_1)).trans hw977_1), ((HB.out.cell (bq_' w _ hw978_0)).trans hw978_0), ((HB.out.cell (bq_' w _ hw978_1)).trans hw978_1)⟩ (fun hHeld => ?_)
             clear hK K
             refine norm_ (a' := ?_) ?_ ?_
             rotate_left
             ·
              show Act.put _ (some 66) _ = _
              simp only [Act.put, sa_', sz_', sc_', i64_w, i32_w]
              rfl
             refine pure_ (i := 14) (N := some 52) (v := ?_) (a' := ?_) #[true, true, true, true, true, true, true, true, true, true, true, true, true, true, true, false, false, true, false, false] rfl rfl (any_of HT_.out (by kernel_rfl)) (fun _ _ _ h => h) (Or.inl ⟨by rfl, ?_⟩) ?_ ?_
             rotate_left
             ·
              intro w'
              go_simp
              with_reducible rfl
             rotate_left
             ·
              simp only [Act.put, sa_', sz_', sc_', i64_w, i32_w]
              rfl
             refine pure_ (i := 15) (N := some 67) (v := ?_) (a' := ?_) #[true, true, true, true, true, true, true, true, true, true, true, true, true, true, true, true, false, true, false, false] rfl rfl (any_of HT_.out (by kernel_rfl)) (fun _ _ _ h => h) (Or.inl ⟨by rfl, ?_⟩) ?_ ?_
             rotate_left
             ·
              intro w'
              go_simp
              with_reducible rfl
             rotate_left
             ·
              simp only [Act.put, sa_', sz_', sc_', i64_w, i32_w]
              rfl
             refine pure_ (i := 16) (N := some 68) (v := ?_) (a' := ?_) #[true, true, true, true, true, true, true, true, true, true, true, true, true, true, true, true, true, true, false, false] rfl rfl (any_of HT_.out (by kernel_rfl)) (fun _ _ _ h => h) (Or.inl ⟨by rfl, ?_⟩) ?_ ?_
             rotate_left
             ·
              intro w'
              go_simp
              with_reducible rfl
             rotate_left
             ·
              simp only [Act.put, sa_', sz_', sc_', i64_w, i32_w]
              rfl
             exact norm_ (by simp only [putAll, Act.put, sa_', sz_', sc_']) (hCont (gb982) _ ⟨hHeld, (km BK970), (km BK973), (km BK982), GW982.out, GE982.out, NB970_982.out, NB982_970.out, NB973_982.out, NB982_973.out, (bm HB)⟩)
            rintro gb982 w50 ⟨hS_, h0_, h1_, h2_, h3_, h4_, h5_, h6_, h7_, h8_, h9_⟩
            have n0_ : Aside0 (w50.heap[gb970]? = some (.cells #[.int .i64 x971000_2, .int .i64 x971001_2] 134 (0, 0))) := ⟨h0_⟩
            have n1_ : Aside0 (w50.heap[gb973]? = some (.cells #[.int .i64 x974000_2, .int .i64 x974001_2] 134 (0, 0))) := ⟨h1_⟩
            have n2_ : Aside0 (w50.heap[gb982]? = some (.cells #[.int .i64 0, .int .i64 0] 134 (0, 0))) := ⟨h2_⟩
            have n3_ : Aside0 (w.heap.size ≤ gb982) := ⟨h3_⟩
            have n4_ : Aside0 (w.heap.size ≤ gb982) := ⟨h4_⟩
            have n5_ : Aside0 (gb970 ≠ gb982) := ⟨h5_⟩
            have n6_ : Aside0 (gb982 ≠ gb970) := ⟨h6_⟩
            have n7_ : Aside0 (gb973 ≠ gb982) := ⟨h7_⟩
            have n8_ : Aside0 (gb982 ≠ gb973) := ⟨h8_⟩
            have n9_ : Aside0 (Below w.heap.size w w50) := ⟨h9_⟩
            clear BK970
            clear BK973
            clear HB
            clear h0_ h1_ h2_ h3_ h4_ h5_ h6_ h7_ h8_ h9_
            have BK970 := n0_
            have BK973 := n1_
            have BK982 := n2_
            have GW982 := n3_
            have GE982 := n4_
            have NB970_982 := n5_
            have NB982_970 := n6_
            have NB973_982 := n7_
            have NB982_973 := n8_
            have HB := n9_
            clear n0_ n1_ n2_ n3_ n4_ n5_ n6_ n7_ n8_ n9_
            have hHeld : w50.cell? (ad977.add ((x7_2).toNat * 2)) = some (.int .i64 ((rd_T140 l0 x7_2).f0)) ∧ w50.cell? ⟨(ad977.add ((x7_2).toNat * 2)).block, (ad977.add ((x7_2).toNat * 2)).off + 1, none⟩ = some (.int .i64 ((rd_T140 l0 x7_2).f1)) ∧ w50.cell? (ad977.add ((x7_2).toNat * 2)) = some (.int .i64 ((rd_T140 l0 x7_2).f0)) ∧ w50.cell? ⟨(ad977.add ((x7_2).toNat * 2)).block, (ad977.add ((x7_2).toNat * 2)).off + 1, none⟩ = some (.int .i64 ((rd_T140 l0 x7_2).f1)) := hS_
            refine norm_ (a' := ?_) ?_ ?_
            rotate_left
            ·
             simp only [putAll, Act.put, sa_', sz_', sc_']
             rfl
            refine one_ (i := 18) (N := none) #[true, true, true, true, true, true, true, true, true, true, true, true, true, true, true, true, true, true, true, false] rfl rfl (one_of HT_.out (by kernel_rfl)) (by decide) (fun K hK => ?_)
            have hs51 : w50.cell? ⟨gb982, 0, none⟩ = some (.int .i64 0) := (kc_' BK982.out 0).trans rfl
            have hfs51 := kf_' BK982.out 0
            have hns51_0 := NB970_982.out
            have hns51_1 := NB973_982.out
            have hms51_0 := NB982_970.out
            have hms51_1 := NB982_973.out
            have hs52 : w50.cell? ⟨gb982, 1, none⟩ = some (.int .i64 0) := (kc_' BK982.out 1).trans rfl
            have hfs52 := kf_' BK982.out 1
            have hns52_0 := NB970_982.out
            have hns52_1 := NB973_982.out
            have hms52_0 := NB982_970.out
            have hms52_1 := NB982_973.out
            refine skip_ (w1 := ?_) (by rfl) rfl ?_ ?_
            rotate_left
            ·
             go_simp
             rfl
            refine hK.out _ _ ⟨((cell_far (p := ⟨gb982, _, none⟩) (by first | exact Nat.ne_of_lt (Nat.lt_of_lt_of_le (by have := bq_' _ _ hw977_0; first | rwa [add_block] at this | exact this) GW982.out) | (rw [add_block]; exact Nat.ne_of_lt (Nat.lt_of_lt_of_le (by have := bq_' _ _ hw977_0; first | rwa [add_block] at this | exact this) GW982.out)) | (show (Addr.add _ _).block ≠ _; rw [add_block]; exact Nat.ne_of_lt (Nat.lt_of_lt_of_le (by have := bq_' _ _ hw977_0; first | rwa [add_block] at this | exact this) GW982.out)) | (dsimp only; exact Nat.ne_of_lt (Nat.lt_of_lt_of_le (by have := bq_' _ _ hw977_0; first | rwa [add_block] at this | exact this) GW982.out))) _).trans (((cell_far (p := ⟨gb982, _, none⟩) (by first | exact Nat.ne_of_lt (Nat.lt_of_lt_of_le (by have := bq_' _ _ hw977_0; first | rwa [add_block] at this | exact this) GW982.out) | (rw [add_block]; exact Nat.ne_of_lt (Nat.lt_of_lt_of_le (by have := bq_' _ _ hw977_0; first | rwa [add_block] at this | exact this) GW982.out)) | (show (Addr.add _ _).block ≠ _; rw [add_block]; exact Nat.ne_of_lt (Nat.lt_of_lt_of_le (by have := bq_' _ _ hw977_0; first | rwa [add_block] at this | exact this) GW982.out)) | (dsimp only; exact Nat.ne_of_lt (Nat.lt_of_lt_of_le (by have := bq_' _ _ hw977_0; first | rwa [add_block] at this | exact this) GW982.out))) _).trans (hHeld.1)))), ((cell_far (p := ⟨gb982, _, none⟩) (by first | exact Nat.ne_of_lt (Nat.lt_of_lt_of_le (by have := bq_' _ _ hw977_1; first | rwa [add_block] at this | exact this) GW982.out) | (rw [add_block]; exact Nat.ne_of_lt (Nat.lt_of_lt_of_le (by have := bq_' _ _ hw977_1; first | rwa [add_block] at this | exact this) GW982.out)) | (show (Addr.add _ _).block ≠ _; rw [add_block]; exact Nat.ne_of_lt (Nat.lt_of_lt_of_le (by have := bq_' _ _ hw977_1; first | rwa [add_block] at this | exact this) GW982.out)) | (dsimp only; exact Nat.ne_of_lt (Nat.lt_of_lt_of_le (by have := bq_' _ _ hw977_1; first | rwa [add_block] at this | exact this) GW982.out))) _).trans (((cell_far (p := ⟨gb982, _, none⟩) (by first | exact Nat.ne_of_lt (Nat.lt_of_lt_of_le (by have := bq_' _ _ hw977_1; first | rwa [add_block] at this | exact this) GW982.out) | (rw [add_block]; exact Nat.ne_of_lt (Nat.lt_of_lt_of_le (by have := bq_' _ _ hw977_1; first | rwa [add_block] at this | exact this) GW982.out)) | (show (Addr.add _ _).block ≠ _; rw [add_block]; exact Nat.ne_of_lt (Nat.lt_of_lt_of_le (by have := bq_' _ _ hw977_1; first | rwa [add_block] at this | exact this) GW982.out)) | (dsimp only; exact Nat.ne_of_lt (Nat.lt_of_lt_of_le (by have := bq_' _ _ hw977_1; first | rwa [add_block] at this | exact this) GW982.out))) _).trans (hHeld.2.1)))), ((cell_far (p := ⟨gb982, _, none⟩) (by first | exact Nat.ne_of_lt (Nat.lt_of_lt_of_le (by have := bq_' _ _ hw978_0; first | rwa [add_block] at this | exact this) GW982.out) | (rw [add_block]; exact Nat.ne_of_lt (Nat.lt_of_lt_of_le (by have := bq_' _ _ hw978_0; first | rwa [add_block] at this | exact this) GW982.out)) | (show (Addr.add _ _).block ≠ _; rw [add_block]; exact Nat.ne_of_lt (Nat.lt_of_lt_of_le (by have := bq_' _ _ hw978_0; first | rwa [add_block] at this | exact this) GW982.out)) | (dsimp only; exact Nat.ne_of_lt (Nat.lt_of_lt_of_le (by have := bq_' _ _ hw978_0; first | rwa [add_block] at this | exact this) GW982.out))) _).trans (((cell_far (p := ⟨gb982, _, none⟩) (by first | exact Nat.ne_of_lt (Nat.lt_of_lt_of_le (by have := bq_' _ _ hw978_0; first | rwa [add_block] at this | exact this) GW982.out) | (rw [add_block]; exact Nat.ne_of_lt (Nat.lt_of_lt_of_le (by have := bq_' _ _ hw978_0; first | rwa [add_block] at this | exact this) GW982.out)) | (show (Addr.add _ _).block ≠ _; rw [add_block]; exact Nat.ne_of_lt (Nat.lt_of_lt_of_le (by have := bq_' _ _ hw978_0; first | rwa [add_block] at this | exact this) GW982.out)) | (dsimp only; exact Nat.ne_of_lt (Nat.lt_of_lt_of_le (by have := bq_' _ _ hw978_0; first | rwa [add_block] at this | exact this) GW982.out))) _).trans (hHeld.2.2.1)))), ((cell_far (p := ⟨gb982, _, none⟩) (by first | exact Nat.ne_of_lt (Nat.lt_of_lt_of_le (by have := bq_' _ _ hw978_1; first | rwa [add_block] at this | exact this) GW982.out) | (rw [add_block]; exact Nat.ne_of_lt (Nat.lt_of_lt_of_le (by have := bq_' _ _ hw978_1; first | rwa [add_block] at this | exact this) GW982.out)) | (show (Addr.add _ _).block ≠ _; rw [add_block]; exact Nat.ne_of_lt (Nat.lt_of_lt_of_le (by have := bq_' _ _ hw978_1; first | rwa [add_block] at this | exact this) GW982.out)) | (dsimp only; exact Nat.ne_of_lt (Nat.lt_of_lt_of_le (by have := bq_' _ _ hw978_1; first | rwa [add_block] at this | exact this) GW982.out))) _).trans (((cell_far (p := ⟨gb982, _, none⟩) (by first | exact Nat.ne_of_lt (Nat.lt_of_lt_of_le (by have := bq_' _ _ hw978_1; first | rwa [add_block] at this | exact this) GW982.out) | (rw [add_block]; exact Nat.ne_of_lt (Nat.lt_of_lt_of_le (by have := bq_' _ _ hw978_1; first | rwa [add_block] at this | exact this) GW982.out)) | (show (Addr.add _ _).block ≠ _; rw [add_block]; exact Nat.ne_of_lt (Nat.lt_of_lt_of_le (by have := bq_' _ _ hw978_1; first | rwa [add_block] at this | exact this) GW982.out)) | (dsimp only; exact Nat.ne_of_lt (Nat.lt_of_lt_of_le (by have := bq_' _ _ hw978_1; first | rwa [add_block] at this | exact this) GW982.out))) _).trans (hHeld.2.2.2))))⟩ (fun hHeld => ?_)
            clear hK K
            refine pure_ (i := 19) (N := some 10) (v := ?_) (a' := ?_) #[true, true, true, true, true, true, true, true, true, true, true, true, true, true, true, true, true, true, true, true] rfl rfl (any_of HT_.out (by kernel_rfl)) (fun _ _ _ h => h) (Or.inl ⟨by rfl, ?_⟩) ?_ ?_
            rotate_left
            ·
             intro w'
             go_simp
             with_reducible rfl
            rotate_left
            ·
             simp only [Act.put, sa_', sz_', sc_', i64_w, i32_w]
             rfl
            refine done_ (done_of HT_.out (by kernel_rfl)) ?_
            have hnb53 := NB973_970.out
            have hnc53 := NB970_973.out
            have hnb54 := NB973_982.out
            have hnc54 := NB982_973.out
            have hcz55_0 : w50.cell? ⟨gb973, 0, none⟩ = some (.int .i64 x974000_2) := (kc_' BK973.out 0).trans rfl
            have hcz55_1 : w50.cell? ⟨gb973, 1, none⟩ = some (.int .i64 x974001_2) := (kc_' BK973.out 1).trans rfl
            have hfz55_0 := kf_' BK973.out 0
            have hfz55_1 := kf_' BK973.out 1
            have hnb56 := NB982_970.out
            have hnc56 := NB970_982.out
            have hcz57_0 : w50.cell? ⟨gb982, 0, none⟩ = some (.int .i64 0) := (kc_' BK982.out 0).trans rfl
            have hcz57_1 : w50.cell? ⟨gb982, 1, none⟩ = some (.int .i64 0) := (kc_' BK982.out 1).trans rfl
            have hfz57_0 := kf_' BK982.out 0
            have hfz57_1 := kf_' BK982.out 1
            try go_wp2_with (first | ((with_reducible refine xj_' (f := 148) rfl ?_); refine goesL_ (some 72) rfl rfl Try.func148 (by kernel_rfl) rfl #[.agg #[.int .i64 x974000_2, .int .i64 x974001_2], .agg #[.int .i64 t979, .int .i64 t980]] rfl (by (try simp only [xm_', xc_', xn_']); first | done | rfl | (simp only [xd_', xt_']; rfl)) ?_; (with_reducible refine (spec_AddRatio.calls kj18 x974000_2 x974001_2 t979 t980 t983 t984 false _ A27.out).mono ?_); rintro e w58 ⟨rfl, hb⟩; refine ⟨_, rfl, ?_⟩; have n0_ := sk_' (blk_below (g := gb970) (o := .cells #[.int .i64 x971000_2, .int .i64 x971001_2] 134 (0, 0)) (by (with_reducible repeat (first | refine kn_' ?_ _ | refine kd_' ?_ | refine ka_' ?_ _)); refine blk_far ?_ NB970_982.out _; (with_reducible repeat (first | refine kn_' ?_ _ | refine kd_' ?_ | refine ka_' ?_ _)); refine blk_far ?_ NB970_982.out _; (with_reducible repeat (first | refine kn_' ?_ _ | refine kd_' ?_ | refine ka_' ?_ _)); exact BK970.out) hb); have n1_ := sk_' (blk_below (g := gb973) (o := .cells #[.int .i64 x974000_2, .int .i64 x974001_2] 134 (0, 0)) (by (with_reducible repeat (first | refine kn_' ?_ _ | refine kd_' ?_ | refine ka_' ?_ _)); refine blk_far ?_ NB973_982.out _; (with_reducible repeat (first | refine kn_' ?_ _ | refine kd_' ?_ | refine ka_' ?_ _)); refine blk_far ?_ NB973_982.out _; (with_reducible repeat (first | refine kn_' ?_ _ | refine kd_' ?_ | refine ka_' ?_ _)); exact BK973.out) hb); have n2_ := sk_' (blk_below (g := gb982) (o := .cells #[.int .i64 t979, .int .i64 t980] 134 (0, 0)) (by (with_reducible repeat (first | refine kn_' ?_ _ | refine kd_' ?_ | refine ka_' ?_ _)); refine blk_put (cs := #[.int .i64 t979, .int .i64 0]) ?_ 1 _ rfl; (with_reducible repeat (first | refine kn_' ?_ _ | refine kd_' ?_ | refine ka_' ?_ _)); refine blk_put (cs := #[.int .i64 0, .int .i64 0]) ?_ 0 _ rfl; (with_reducible repeat (first | refine kn_' ?_ _ | refine kd_' ?_ | refine ka_' ?_ _)); exact BK982.out) hb); have n3_ := sk_' (pp_' (by repeat (first | (with_reducible first | exact HB.out | apply pa_' | apply pn_' | apply pd_' | refine pt_' ?_ GE970.out | refine pt_' ?_ GE973.out | refine pt_' ?_ GE982.out) | exact HB.out)) hb); clear BK970; clear BK973; clear BK982; clear HB; have BK970 := n0_; have BK973 := n1_; have BK982 := n2_; have HB := n3_; clear n0_ n1_ n2_ n3_; (try clear hb); (try clear hb2); (try clear hk); (try clear hi)) | ((with_reducible refine gate_dst (N := 11) rfl ?_); refine box_event ?hg (N := 11) ?hd (cs := #[.int .i64 0, .int .i64 0]) (t := 134) ?hr ?_; (case hd => rfl); (case hg => rfl); (case hr => first | (go_simp; done) | (go_simp; rfl)); intro gb986 hg w59 hbox hb; have n0_ := sk_' (blk_below (g := gb970) (o := .cells #[.int .i64 x971000_2, .int .i64 x971001_2] 134 (0, 0)) (by (with_reducible repeat (first | refine kn_' ?_ _ | refine kd_' ?_ | refine ka_' ?_ _)); exact BK970.out) hb); have n1_ := sk_' (blk_below (g := gb973) (o := .cells #[.int .i64 x974000_2, .int .i64 x974001_2] 134 (0, 0)) (by (with_reducible repeat (first | refine kn_' ?_ _ | refine kd_' ?_ | refine ka_' ?_ _)); exact BK973.out) hb); have n2_ := sk_' (blk_below (g := gb982) (o := .cells #[.int .i64 t979, .int .i64 t980] 134 (0, 0)) (by (with_reducible repeat (first | refine kn_' ?_ _ | refine kd_' ?_ | refine ka_' ?_ _)); exact BK982.out) hb); have n3_ := sk_' (pp_' (by repeat (first | (with_reducible first | exact HB.out | apply pa_' | apply pn_' | apply pd_' | refine pt_' ?_ GE970.out | refine pt_' ?_ GE973.out | refine pt_' ?_ GE982.out) | exact HB.out)) hb); have n4_ := sk_' (hbox); have n5_ := sk_' ((by rw [hg]; exact (ps_' (by repeat (first | (with_reducible first | exact HB.out | apply pa_' | apply pn_' | apply pd_' | refine pt_' ?_ GE970.out | refine pt_' ?_ GE973.out | refine pt_' ?_ GE982.out) | exact HB.out))) : w.heap.size ≤ gb986)); have n6_ := sk_' ((by rw [hg]; exact (ps_' (by repeat (first | (with_reducible first | exact HB.out | apply pa_' | apply pn_' | apply pd_' | refine pt_' ?_ GE970.out | refine pt_' ?_ GE973.out | refine pt_' ?_ GE982.out) | exact HB.out))) : w.heap.size ≤ gb986)); have n7_ := sk_' ((by rw [hg]; exact Nat.ne_of_lt (blk_lt (g := gb970) (o := .cells #[.int .i64 x971000_2, .int .i64 x971001_2] 134 (0, 0)) (by (with_reducible repeat (first | refine kn_' ?_ _ | refine kd_' ?_ | refine ka_' ?_ _)); exact BK970.out)) : gb970 ≠ gb986)); have n8_ := sk_' ((by rw [hg]; exact Nat.ne_of_gt (blk_lt (g := gb970) (o := .cells #[.int .i64 x971000_2, .int .i64 x971001_2] 134 (0, 0)) (by (with_reducible repeat (first | refine kn_' ?_ _ | refine kd_' ?_ | refine ka_' ?_ _)); exact BK970.out)) : gb986 ≠ gb970)); have n9_ := sk_' ((by rw [hg]; exact Nat.ne_of_lt (blk_lt (g := gb973) (o := .cells #[.int .i64 x974000_2, .int .i64 x974001_2] 134 (0, 0)) (by (with_reducible repeat (first | refine kn_' ?_ _ | refine kd_' ?_ | refine ka_' ?_ _)); exact BK973.out)) : gb973 ≠ gb986)); have n10_ := sk_' ((by rw [hg]; exact Nat.ne_of_gt (blk_lt (g := gb973) (o := .cells #[.int .i64 x974000_2, .int .i64 x974001_2] 134 (0, 0)) (by (with_reducible repeat (first | refine kn_' ?_ _ | refine kd_' ?_ | refine ka_' ?_ _)); exact BK973.out)) : gb986 ≠ gb973)); have n11_ := sk_' ((by rw [hg]; exact Nat.ne_of_lt (blk_lt (g := gb982) (o := .cells #[.int .i64 t979, .int .i64 t980] 134 (0, 0)) (by (with_reducible repeat (first | refine kn_' ?_ _ | refine kd_' ?_ | refine ka_' ?_ _)); exact BK982.out)) : gb982 ≠ gb986)); have n12_ := sk_' ((by rw [hg]; exact Nat.ne_of_gt (blk_lt (g := gb982) (o := .cells #[.int .i64 t979, .int .i64 t980] 134 (0, 0)) (by (with_reducible repeat (first | refine kn_' ?_ _ | refine kd_' ?_ | refine ka_' ?_ _)); exact BK982.out)) : gb986 ≠ gb982)); clear BK970; clear BK973; clear BK982; clear HB; have BK970 := n0_; have BK973 := n1_; have BK982 := n2_; have HB := n3_; have BK986 := n4_; have GW986 := n5_; have GE986 := n6_; have NB970_986 := n7_; have NB986_970 := n8_; have NB973_986 := n9_; have NB986_973 := n10_; have NB982_986 := n11_; have NB986_982 := n12_; clear n0_ n1_ n2_ n3_ n4_ n5_ n6_ n7_ n8_ n9_ n10_ n11_ n12_; clear hb hbox hg; have hnb60 := NB986_970.out; have hnc60 := NB970_986.out; have hnb61 := NB986_973.out; have hnc61 := NB973_986.out; have hnb62 := NB986_982.out; have hnc62 := NB982_986.out; have hcz63_0 : w59.cell? ⟨gb986, 0, none⟩ = some (.int .i64 0) := (kc_' BK986.out 0).trans rfl; have hcz63_1 : w59.cell? ⟨gb986, 1, none⟩ = some (.int .i64 0) := (kc_' BK986.out 1).trans rfl; have hfz63_0 := kf_' BK986.out 0; have hfz63_1 := kf_' BK986.out 1; have hcz64_0 : w59.cell? ⟨gb970, 0, none⟩ = some (.int .i64 x971000_2) := (kc_' BK970.out 0).trans rfl; have hcz64_1 : w59.cell? ⟨gb970, 1, none⟩ = some (.int .i64 x971001_2) := (kc_' BK970.out 1).trans rfl; have hfz64_0 := kf_' BK970.out 0; have hfz64_1 := kf_' BK970.out 1))
            refine bodyPost_ret (results_ct rfl _ _ gb970 134 #[.int .i64 0, .int .i64 0] (0, 0) _ rfl (by (with_reducible repeat (first | refine kn_' ?_ _ | refine kd_' ?_ | refine ka_' ?_ _)); refine blk_put (cs := #[.int .i64 0, .int .i64 x971001_2]) ?_ 1 _ rfl; (with_reducible repeat (first | refine kn_' ?_ _ | refine kd_' ?_ | refine ka_' ?_ _)); refine blk_put (cs := #[.int .i64 x971000_2, .int .i64 x971001_2]) ?_ 0 _ rfl; (with_reducible repeat (first | refine kn_' ?_ _ | refine kd_' ?_ | refine ka_' ?_ _)); refine blk_far ?_ NB970_986.out _; (with_reducible repeat (first | refine kn_' ?_ _ | refine kd_' ?_ | refine ka_' ?_ _)); refine blk_far ?_ NB970_986.out _; (with_reducible repeat (first | refine kn_' ?_ _ | refine kd_' ?_ | refine ka_' ?_ _)); exact BK970.out) Try.underlying134 rfl (by kernel_rfl)) rfl ?_
            exact ⟨by first | rfl | (simp [errW_none, errW_some] <;> rfl) | (simp [*, errW_none, errW_some] <;> rfl), by repeat (first | (with_reducible first | exact HB.out | apply pa_' | apply pn_' | apply pd_' | refine pt_' ?_ GE970.out | refine pt_' ?_ GE973.out | refine pt_' ?_ GE982.out | refine pt_' ?_ GE986.out) | exact HB.out)⟩
           rw [if_neg c25] at H
           exact absurd H (by simp)
          rw [if_neg c24] at H
          exact absurd H (by simp)
       replace c18 := Bool.eq_false_iff.mpr c18
       subst c18
       rw [if_neg (show ¬ (false = true) by decide)] at H
       simp only [Option.some.injEq, Prod.mk.injEq] at H
       obtain ⟨rfl, rfl, rfl⟩ := H
       have hnb65 := NB973_970.out
       have hnc65 := NB970_973.out
       have hcz66_0 : wc.cell? ⟨gb973, 0, none⟩ = some (.int .i64 x974000_2) := (kc_' BK973.out 0).trans rfl
       have hcz66_1 : wc.cell? ⟨gb973, 1, none⟩ = some (.int .i64 x974001_2) := (kc_' BK973.out 1).trans rfl
       have hfz66_0 := kf_' BK973.out 0
       have hfz66_1 := kf_' BK973.out 1
       have hcz67_0 : wc.cell? ⟨gb970, 0, none⟩ = some (.int .i64 x971000_2) := (kc_' BK970.out 0).trans rfl
       have hcz67_1 : wc.cell? ⟨gb970, 1, none⟩ = some (.int .i64 x971001_2) := (kc_' BK970.out 1).trans rfl
       have hfz67_0 := kf_' BK970.out 0
       have hfz67_1 := kf_' BK970.out 1
       go_wp2
       refine bodyPost_ret (results_ct rfl _ _ gb970 134 #[.int .i64 x974000_2, .int .i64 x974001_2] (0, 0) _ rfl (by (with_reducible repeat (first | refine kn_' ?_ _ | refine kd_' ?_ | refine ka_' ?_ _)); refine blk_put (cs := #[.int .i64 x974000_2, .int .i64 x971001_2]) ?_ 1 _ rfl; (with_reducible repeat (first | refine kn_' ?_ _ | refine kd_' ?_ | refine ka_' ?_ _)); refine blk_put (cs := #[.int .i64 x971000_2, .int .i64 x971001_2]) ?_ 0 _ rfl; (with_reducible repeat (first | refine kn_' ?_ _ | refine kd_' ?_ | refine ka_' ?_ _)); exact BK970.out) Try.underlying134 rfl (by kernel_rfl)) rfl ?_
       exact ⟨by first | rfl | (simp [errW_none, errW_some] <;> rfl) | (simp [*, errW_none, errW_some] <;> rfl), by repeat (first | (with_reducible first | exact HB.out | apply pa_' | apply pn_' | apply pd_' | refine pt_' ?_ GE970.out | refine pt_' ?_ GE973.out) | exact HB.out)⟩
end Go.Proofs.Ytiophiipmgpaeaa.F
