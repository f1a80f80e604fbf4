/- FnPerformances, part 4 of 7: texts of the claim, joined into one file. -/
import Derived.Test.YtbhlmeghbfmgiaaZFnPerformances3
import Derived.Lib.OwnBridge
import Derived.Sort.OwnSortedInts
import Derived.Sort.Grow

namespace Go.Proofs.Ytbhlmeghbfmgiaa.F
open Go.RowKit Go.Proofs.YtbhlmeghbfmgiaaW.PrintWords Go.Proofs.YtbhlmeghbfmgiaaW.PrintLast Go.Proofs.YtbhlmeghbfmgiaaW.PrintMore
attribute [local go_sem] max2_int min2_int max_two min_two max_three min_three max_four min_four
set_option linter.unusedVariables false
set_option linter.unusedSimpArgs false
def impl_lowest.j0 : Nat → Int → Int → Option (Int × Int × Bool)
 | 0, _, _ => none
 | k + 1, x0, x1 => if x1 = 0 then (some (0, 0, false)) else ((impl_divisor.f k (mx x0 (wrap64 (-x0))) x1).bind fun t621 => (if t621 = 0 then (none) else ((impl_IsRatio.f k (wrap64 (Int.tdiv x0 t621)) (wrap64 (Int.tdiv x1 t621))).bind fun t623 => (if t623 = true then (some (wrap64 (Int.tdiv x0 t621), wrap64 (Int.tdiv x1 t621), true)) else (some (0, 0, false))))))
def impl_lowest.f (k : Nat) (a0 : Int) (a1 : Int) : Option (Int × Int × Bool) := if a1 < 0 then (impl_lowest.j0 k (wrap64 (-a0)) (wrap64 (-a1))) else (impl_lowest.j0 k a0 a1)
def impl_lowest.T6 : Bool × List (List Nat × List Nat) := (true, [([], []), ([], []), ([0, 1], [0, 1]), ([], []), ([], []), ([3, 4], [3, 4]), ([2, 5], [2, 5]), ([], []), ([7, 6, 0, 1, 2, 3, 4, 5, 6, 7], [6, 7])])
def impl_lowest.B6 : List Nat := [0, 0, 3, 0, 0, 24, 63, 0, 255]
theorem impl_lowest.tab6 : rtab .any (opsOf Try.f154 6) = impl_lowest.T6 := by kernel_rfl
theorem impl_lowest.bits6 : waitsOk impl_lowest.T6.2 impl_lowest.B6 = true := by kernel_rfl
set_option maxHeartbeats 8000000 in
set_option maxRecDepth 100000 in
theorem impl_lowest.calls (k : Nat) (a0 : Int) (a1 : Int) (r1 : Int) (r2 : Int) (r3 : Bool) (w : World) (h : impl_lowest.f k a0 a1 = some (r1, r2, r3)) :
  Calls Try.prog 154 #[.int .i64 a0, .int .i64 a1] w fun e w' => e = .returned (.tuple #[.agg #[.int .i64 r1, .int .i64 r2], .bool r3]) ∧ Below w.heap.size w w' := by
 have hu := Try.underlying95
 have F := sk_' (Fr.of (Below.refl w.heap.size w))
 have H := h
 clear h
 unfold impl_lowest.f at H
 have HA := sk_' H
 clear H
 go_enter Try.func154, Try.ntmps154
 go_upto_if 9 with (first
  | ((with_reducible refine gate_dst (N := 4) rfl ?_); refine box_event ?hg (N := 4) ?hd (cs := #[.int .i64 0, .int .i64 0]) (t := 95) ?hr ?_; (case hd => rfl); (case hg => rfl); (case hr => first | (go_simp; done) | (go_simp; rfl)); intro gr hg w1 hbox hb; have F1 := sk_' (F.out.push hg hbox hb); clear F hbox hb hg; have F := F1; clear F1))
 (try simp only [Act.put, sa_', sz_', sc_'])
 go_cut [0, 1] (fun v0 v1 wc => ∃ (n d : Int), v0 = .int .i64 n ∧ v1 = .int .i64 d ∧ Aside0 (impl_lowest.j0 k n d = some (r1, r2, r3)) ∧ Aside0 (Fr w wc [(gr, .cells #[.int .i64 0, .int .i64 0] 95 (0, 0))]))
 case first =>
  have H := HA.out
  clear HA
  by_cases d1 : a1 < 0
  ·
   rw [if_pos d1] at H
   have d1b : decide (a1 < 0) = true := decide_eq_true d1
   clear d1
   rw [d1b]
   have HA := sk_' H
   clear H
   go_wp2
   go_meet
   case rel => exact ⟨wrap64 (-a0), wrap64 (-a1), (by first | rfl | (simp; done) | (simp [*]; done)), (by first | rfl | (simp; done) | (simp [*]; done)), HA, F⟩
  rw [if_neg d1] at H
  have d1b : decide (a1 < 0) = false := decide_eq_false d1
  clear d1
  rw [d1b]
  have HA := sk_' H
  clear H
  go_wp2
  go_meet
  case rel => exact ⟨a0, a1, (by first | rfl | (simp; done) | (simp [*]; done)), (by first | rfl | (simp; done) | (simp [*]; done)), HA, F⟩
 case rest =>
  clear HA F
  obtain ⟨n, d, rfl, rfl, HA, F⟩ := hcut
  cases k with
  | zero => exact absurd HA.out (by simp [impl_lowest.j0])
  | succ k2 =>
   have H := HA.out
   clear HA
   simp only [impl_lowest.j0] at H
   by_cases c1 : d = 0
   ·
    rw [if_pos c1] at H
    have c1a : (d == 0) = true := beq_iff_eq.mpr c1
    have c1b : (d != 0) = false := bne_eq_false_iff_eq.mpr c1
    clear c1
    simp only [Option.some.injEq, Prod.mk.injEq] at H
    obtain ⟨rfl, rfl, rfl⟩ := H
    obtain ⟨grc0, grc1, grf0, grf1⟩ := F.out.c2 (i := 0) rfl
    go_wp2
    refine bodyPost_ret (results_ct rfl _ _ gr 95 #[.int .i64 0, .int .i64 0] (0, 0) _ rfl ((F.out.put2 (i := 0) rfl (.int .i64 0) (.int .i64 0)).get (i := 0) (by rfl)) hu rfl (by kernel_rfl)) rfl ?_
    exact ⟨rfl, (F.out.put2 (i := 0) rfl (.int .i64 0) (.int .i64 0)).below⟩
   rw [if_neg c1] at H
   have c1a : (d == 0) = false := beq_eq_false_iff_ne.mpr c1
   have c1b : (d != 0) = true := bne_iff_ne.mpr c1
   replace c1 := eq_false c1
   replace H := bs_' H
   obtain ⟨g, B_, H⟩ := H
   have A2 := sk_' B_
   clear B_
   by_cases z1 : g = 0
   ·
    rw [if_pos z1] at H
    exact absurd H (by simp)
   rw [if_neg z1] at H
   have z1a : (g == 0) = false := beq_eq_false_iff_ne.mpr z1
   have z1b : (g != 0) = true := bne_iff_ne.mpr z1
   replace z1 := eq_false z1
   replace H := bs_' H
   obtain ⟨t9, B_, H⟩ := H
   have A3 := sk_' B_
   clear B_
   have HA := sk_' H
   clear H
   go_upto_region 5 with (fail)
   (try simp only [Act.put, sa_', sz_', sc_'])
   go_cut [6] (fun v6 wc => v6 = .int .i64 g ∧ Aside0 (Fr w wc [(gr, .cells #[.int .i64 0, .int .i64 0] 95 (0, 0))]))
   case first =>
    by_cases m : n < wrap64 (-n)
    ·
     have e := A2.out
     rw [show mx n (wrap64 (-n)) = wrap64 (-n) from if_pos m] at e
     have A4 := sk_' e
     replace m := eq_true m
     clear e
     go_wp2_with (first
      | (go_at_call 123; (with_reducible refine (impl_divisor.calls k2 (wrap64 (-n)) d g _ A4.out).mono ?_); rintro e w3 ⟨rfl, hb⟩; have F1 := sk_' (F.out.drawn hb); clear F hb; have F := F1; clear F1))
     go_meet
     case rel => exact ⟨(by first | rfl | (simp; done) | (simp [*]; done)), F⟩
    have e := A2.out
    rw [show mx n (wrap64 (-n)) = n from if_neg m] at e
    have A4 := sk_' e
    replace m := eq_false m
    clear e
    go_wp2_with (first
     | (go_at_call 123; (with_reducible refine (impl_divisor.calls k2 (n) d g _ A4.out).mono ?_); rintro e w3 ⟨rfl, hb⟩; have F1 := sk_' (F.out.drawn hb); clear F hb; have F := F1; clear F1))
    go_meet
    case rel => exact ⟨(by first | rfl | (simp; done) | (simp [*]; done)), F⟩
   case rest =>
    clear F
    obtain ⟨rfl, F⟩ := hcut
    go_wp2
    have F1 := sk_' F.out.drew
    clear F
    have F := F1
    clear F1
    refine start_ (n := 9) (S := fun w' => w'.cell? ⟨gr, 0, none⟩ = some (.int .i64 0)) (ds := []) #[false, false, false, false, false, false, false, false, false] (by kernel_rfl) rfl rfl (F.out.c2 (i := 0) rfl).1 (fun hHeld => ?_); refine with_tabW impl_lowest.tab6 impl_lowest.bits6 (fun HT_ HW_ => ?_)
    generalize wc.drew = w5 at F hHeld ⊢
    refine pure_ (i := 0) (N := some 23) (v := ?_) (a' := ?_) #[true, false, false, false, false, false, false, false, false] rfl rfl (any_of HT_.out (by kernel_rfl)) (fun _ _ _ h => h) (Or.inl ⟨by rfl, ?_⟩) ?_ ?_
    rotate_left
    ·
     intro w'
     go_simp
     with_reducible rfl
    rotate_left
    ·
     simp only [Act.put, sa_', sz_', sc_', i64_w, i32_w]
     rfl
    refine pure_ (i := 1) (N := some 24) (v := ?_) (a' := ?_) #[true, true, false, false, false, false, false, false, false] rfl rfl (any_of HT_.out (by kernel_rfl)) (fun _ _ _ h => h) (Or.inl ⟨by rfl, ?_⟩) ?_ ?_
    rotate_left
    ·
     intro w'
     go_simp
     with_reducible rfl
    rotate_left
    ·
     simp only [Act.put, sa_', sz_', sc_', i64_w, i32_w]
     rfl
    refine pure_ (i := 2) (N := some 25) (v := ?_) (a' := ?_) #[true, true, true, false, false, false, false, false, false] rfl rfl (any_of HT_.out (by kernel_rfl)) (fun _ _ _ h => h) (Or.inl ⟨by rfl, ?_⟩) ?_ ?_
    rotate_left
    ·
     intro w'
     go_simp
     with_reducible rfl
    rotate_left
    ·
     simp only [Act.put, sa_', sz_', sc_', i64_w, i32_w]
     rfl
    refine pure_ (i := 3) (N := some 26) (v := ?_) (a' := ?_) #[true, true, true, true, false, false, false, false, false] rfl rfl (any_of HT_.out (by kernel_rfl)) (fun _ _ _ h => h) (Or.inl ⟨by rfl, ?_⟩) ?_ ?_
    rotate_left
    ·
     intro w'
     go_simp
     with_reducible rfl
    rotate_left
    ·
     simp only [Act.put, sa_', sz_', sc_', i64_w, i32_w]
     rfl
    refine pure_ (i := 4) (N := some 27) (v := ?_) (a' := ?_) #[true, true, true, true, true, false, false, false, false] rfl rfl (any_of HT_.out (by kernel_rfl)) (fun _ _ _ h => h) (Or.inl ⟨by rfl, ?_⟩) ?_ ?_
    rotate_left
    ·
     intro w'
     go_simp
     with_reducible rfl
    rotate_left
    ·
     simp only [Act.put, sa_', sz_', sc_', i64_w, i32_w]
     rfl
    refine pure_ (i := 5) (N := some 28) (v := ?_) (a' := ?_) #[true, true, true, true, true, true, false, false, false] rfl rfl (any_of HT_.out (by kernel_rfl)) (fun _ _ _ h => h) (Or.inl ⟨by rfl, ?_⟩) ?_ ?_
    rotate_left
    ·
     intro w'
     go_simp
     with_reducible rfl
    rotate_left
    ·
     simp only [Act.put, sa_', sz_', sc_', i64_w, i32_w]
     rfl
    refine pure_ (i := 6) (N := some 29) (v := ?_) (a' := ?_) #[true, true, true, true, true, true, true, false, false] rfl rfl (any_of HT_.out (by kernel_rfl)) (fun _ _ _ h => h) (Or.inl ⟨by rfl, ?_⟩) ?_ ?_
    rotate_left
    ·
     intro w'
     go_simp
     with_reducible rfl
    rotate_left
    ·
     simp only [Act.put, sa_', sz_', sc_', i64_w, i32_w]
     rfl
    refine one_ (i := 7) (N := some 7) #[true, true, true, true, true, true, true, true, false] rfl rfl (one_of HT_.out (by kernel_rfl)) (by decide) (fun K hK => ?_)
    refine box_step ?hg (N := 7) ?hd (cs := #[.int .i64 0, .int .i64 0]) (t := 95) ?hr ?_; (case hd => rfl); (case hg => rfl); (case hr => first | (go_simp; done) | (go_simp; rfl))
    intro gn hg w6 hbox hb
    have F1 := sk_' (F.out.push hg hbox hb)
    clear F hbox hb hg
    have F := F1
    clear F1
    clear hHeld
    refine hK.out _ _ (F.out.c2 (i := 0) rfl).1 (fun hHeld => ?_)
    clear hK K
    refine norm_ (a' := ?_) ?_ ?_
    rotate_left
    ·
     show Act.put _ (some 7) _ = _
     simp only [Act.put, sa_', sz_', sc_', i64_w, i32_w]
     rfl
    refine one_ (i := 8) (N := none) #[true, true, true, true, true, true, true, true, true] rfl rfl (one_of HT_.out (by kernel_rfl)) (by decide) (fun K hK => ?_)
    obtain ⟨gnc0, gnc1, gnf0, gnf1⟩ := F.out.c2 (i := 1) rfl
    refine skip_ (w1 := put2 w6 gn (.int .i64 (wrap64 (Int.tdiv n g))) (.int .i64 (wrap64 (Int.tdiv d g)))) (by rfl) rfl ?_ ?_
    ·
     unfold put2
     go_simp
     try rfl
    clear gnc0 gnc1 gnf0 gnf1
    have F1 := sk_' (F.out.put2 (i := 1) rfl (.int .i64 (wrap64 (Int.tdiv n g))) (.int .i64 (wrap64 (Int.tdiv d g))))
    clear F
    generalize put2 w6 gn (.int .i64 (wrap64 (Int.tdiv n g))) (.int .i64 (wrap64 (Int.tdiv d g))) = w7 at F1 ⊢
    have F := F1
    clear F1
    clear hHeld
    refine hK.out _ _ (F.out.c2 (i := 0) rfl).1 (fun hHeld => ?_)
    clear hK K
    clear hHeld
    refine done_ (done_of HT_.out (by kernel_rfl)) ?_
    have hne := F.out.apart (i := 0) (j := 1) rfl rfl (by decide)
    have H := HA.out
    clear HA
    obtain ⟨gnc0, gnc1, gnf0, gnf1⟩ := F.out.c2 (i := 1) rfl
    cases t9 with
    | false =>
     simp only [Bool.false_eq_true, if_false, Option.some.injEq, Prod.mk.injEq] at H
     obtain ⟨rfl, rfl, rfl⟩ := H
     go_wp2_with (first
      | (go_at_call 62; (with_reducible refine (impl_IsRatio.calls k2 (wrap64 (Int.tdiv n g)) (wrap64 (Int.tdiv d g)) false _ A3.out).mono ?_); rintro e w8 ⟨rfl, hb⟩; have F1 := sk_' (F.out.step hb); clear gnc0 gnc1 gnf0 gnf1; clear F hb; have F := F1; clear F1; obtain ⟨grc0, grc1, grf0, grf1⟩ := F.out.c2 (i := 0) rfl; obtain ⟨gnc0, gnc1, gnf0, gnf1⟩ := F.out.c2 (i := 1) rfl))
     refine bodyPost_ret (results_ct rfl _ _ gr 95 #[.int .i64 0, .int .i64 0] (0, 0) _ rfl ((F.out.put2 (i := 0) rfl (.int .i64 0) (.int .i64 0)).get (i := 0) (by rfl)) hu rfl (by kernel_rfl)) rfl ?_
     exact ⟨rfl, (F.out.put2 (i := 0) rfl (.int .i64 0) (.int .i64 0)).below⟩
    | true =>
     simp only [if_true, Option.some.injEq, Prod.mk.injEq] at H
     obtain ⟨rfl, rfl, rfl⟩ := H
     go_wp2_with (first
      | (go_at_call 62; (with_reducible refine (impl_IsRatio.calls k2 (wrap64 (Int.tdiv n g)) (wrap64 (Int.tdiv d g)) true _ A3.out).mono ?_); rintro e w8 ⟨rfl, hb⟩; have F1 := sk_' (F.out.step hb); clear gnc0 gnc1 gnf0 gnf1; clear F hb; have F := F1; clear F1; obtain ⟨grc0, grc1, grf0, grf1⟩ := F.out.c2 (i := 0) rfl; obtain ⟨gnc0, gnc1, gnf0, gnf1⟩ := F.out.c2 (i := 1) rfl))
     refine bodyPost_ret (results_ct rfl _ _ gr 95 #[.int .i64 (wrap64 (Int.tdiv n g)), .int .i64 (wrap64 (Int.tdiv d g))] (0, 0) _ rfl ((F.out.put2 (i := 0) rfl (.int .i64 (wrap64 (Int.tdiv n g))) (.int .i64 (wrap64 (Int.tdiv d g)))).get (i := 0) (by rfl)) hu rfl (by kernel_rfl)) rfl ?_
     exact ⟨rfl, (F.out.put2 (i := 0) rfl (.int .i64 (wrap64 (Int.tdiv n g))) (.int .i64 (wrap64 (Int.tdiv d g)))).below⟩
end Go.Proofs.Ytbhlmeghbfmgiaa.F

namespace Go.Proofs.Ytbhlmeghbfmgiaa.F
open Go.RowKit Go.Proofs.YtbhlmeghbfmgiaaW.PrintWords Go.Proofs.YtbhlmeghbfmgiaaW.PrintLast Go.Proofs.YtbhlmeghbfmgiaaW.PrintMore
attribute [local go_sem] max2_int min2_int max_two min_two max_three min_three max_four min_four
set_option linter.unusedVariables false
set_option linter.unusedSimpArgs false
def impl_MakeRatio.f (k : Nat) (a0 : Int) (a1 : Int) : Option (Int × Int × Bool) := (impl_InRange.f a0 (-1000000000000000) 1000000000000000).bind fun t625 => (if t625 = true then ((impl_InRange.f a1 (-1000000000000000) 1000000000000000).bind fun t626 => (if t626 = true then ((impl_lowest.f k a0 a1).bind fun bt627 => (some (bt627.1, bt627.2.1, bt627.2.2))) else (some (0, 0, false)))) else (some (0, 0, false)))
set_option maxHeartbeats 8000000 in
set_option maxRecDepth 100000 in
theorem impl_MakeRatio.calls (k : Nat) (a0 : Int) (a1 : Int) (r1 : Int) (r2 : Int) (r3 : Bool) (w : World) (h : impl_MakeRatio.f k a0 a1 = some (r1, r2, r3)) :
  Calls Try.prog 119 #[.int .i64 a0, .int .i64 a1] w fun e w' => e = .returned (.tuple #[.agg #[.int .i64 r1, .int .i64 r2], .bool r3]) ∧ Below w.heap.size w w' := by
 have hu95 := Try.underlying95
 have HB := sk_' (Below.refl w.heap.size w)
 have H : ((impl_InRange.f a0 (-1000000000000000) 1000000000000000).bind fun t625 => (if t625 = true then ((impl_InRange.f a1 (-1000000000000000) 1000000000000000).bind fun t626 => (if t626 = true then ((impl_lowest.f k a0 a1).bind fun bt627 => (some (bt627.1, bt627.2.1, bt627.2.2))) else (some (0, 0, false)))) else (some (0, 0, false)))) = some (r1, r2, r3) := h
 clear h
 replace H := bs_' H
 obtain ⟨t625, A30, H⟩ := H
 try dsimp only at H
 have A3 := sk_' A30
 clear A30
 by_cases c4 : t625 = true
 ·
  subst c4
  rw [if_pos rfl] at H
  replace H := bs_' H
  obtain ⟨t626, A50, H⟩ := H
  try dsimp only at H
  have A5 := sk_' A50
  clear A50
  by_cases c6 : t626 = true
  ·
   subst c6
   rw [if_pos rfl] at H
   replace H := bs_' H
   obtain ⟨⟨t627, t628, t629⟩, A70, H⟩ := H
   try dsimp only at H
   have A7 := sk_' A70
   clear A70
   simp only [Option.some.injEq, Prod.mk.injEq] at H
   obtain ⟨rfl, rfl, rfl⟩ := H
   go_enter Try.func119, Try.ntmps119
   go_wp2_with (first | ((with_reducible refine gate_dst (N := 4) rfl ?_); refine box_event ?hg (N := 4) ?hd (cs := #[.int .i64 0, .int .i64 0]) (t := 95) ?hr ?_; (case hd => rfl); (case hg => rfl); (case hr => first | (go_simp; done) | (go_simp; rfl)); intro gb624 hg w8 hbox hb; have n0_ := sk_' (pp_' (by repeat (first | (with_reducible first | exact HB.out | apply pa_' | apply pn_' | apply pd_') | exact HB.out)) hb); have n1_ := sk_' (hbox); have n2_ := sk_' ((by rw [hg]; exact (ps_' (by repeat (first | (with_reducible first | exact HB.out | apply pa_' | apply pn_' | apply pd_') | exact HB.out))) : w.heap.size ≤ gb624)); have n3_ := sk_' ((by rw [hg]; exact (ps_' (by repeat (first | (with_reducible first | exact HB.out | apply pa_' | apply pn_' | apply pd_') | exact HB.out))) : w.heap.size ≤ gb624)); clear HB; have HB := n0_; have BK624 := n1_; have GW624 := n2_; have GE624 := n3_; clear n0_ n1_ n2_ n3_; clear hb hbox hg) | ((with_reducible refine xj_' (f := 86) rfl ?_); refine goesL_ (some 7) rfl rfl Try.func86 (by kernel_rfl) rfl #[.int .i64 a0, .int .i64 (-1000000000000000), .int .i64 1000000000000000] rfl (by (try simp only [xm_', xc_', xn_']); first | done | rfl | (simp only [xd_', xt_']; rfl)) ?_; (with_reducible refine (impl_InRange.calls a0 (-1000000000000000) 1000000000000000 true _ A3.out).mono ?_); rintro e w' ⟨rfl, ⟨nd, rfl⟩⟩; refine ⟨_, rfl, ?_⟩; (try (rw [drewN_self w8]; generalize hq_ : World.drewN w8 _ = w8; have n0_ : Aside0 (w8.heap[gb624]? = some (.cells #[.int .i64 0, .int .i64 0] 95 (0, 0))) := ⟨by rw [← hq_]; exact (by (with_reducible repeat (first | refine kn_' ?_ _ | refine kd_' ?_ | refine ka_' ?_ _)); exact BK624.out)⟩; have n1_ : Aside0 (Below w.heap.size w w8) := ⟨by rw [← hq_]; exact (by repeat (first | (with_reducible first | exact HB.out | apply pa_' | apply pn_' | apply pd_' | refine pt_' ?_ GE624.out) | exact HB.out))⟩; clear BK624 HB hq_; have BK624 := n0_; have HB := n1_; clear n0_ n1_))) | (go_at_call 86; (with_reducible refine (impl_InRange.calls a1 (-1000000000000000) 1000000000000000 true _ A5.out).mono ?_); rintro e w' ⟨rfl, ⟨nd, rfl⟩⟩; (try (rw [drewN_self w8]; generalize hq_ : World.drewN w8 _ = w8; have n0_ : Aside0 (w8.heap[gb624]? = some (.cells #[.int .i64 0, .int .i64 0] 95 (0, 0))) := ⟨by rw [← hq_]; exact (by (with_reducible repeat (first | refine kn_' ?_ _ | refine kd_' ?_ | refine ka_' ?_ _)); exact BK624.out)⟩; have n1_ : Aside0 (Below w.heap.size w w8) := ⟨by rw [← hq_]; exact (by repeat (first | (with_reducible first | exact HB.out | apply pa_' | apply pn_' | apply pd_' | refine pt_' ?_ GE624.out) | exact HB.out))⟩; clear BK624 HB hq_; have BK624 := n0_; have HB := n1_; clear n0_ n1_))) | ((with_reducible refine xj_' (f := 154) rfl ?_); refine goesL_ (some 17) rfl rfl Try.func154 (by kernel_rfl) rfl #[.int .i64 a0, .int .i64 a1] rfl (by (try simp only [xm_', xc_', xn_']); first | done | rfl | (simp only [xd_', xt_']; rfl)) ?_; (with_reducible refine (impl_lowest.calls k a0 a1 t627 t628 t629 _ A7.out).mono ?_); rintro e w9 ⟨rfl, hb⟩; refine ⟨_, rfl, ?_⟩; have n0_ := sk_' (blk_below (g := gb624) (o := .cells #[.int .i64 0, .int .i64 0] 95 (0, 0)) (by (with_reducible repeat (first | refine kn_' ?_ _ | refine kd_' ?_ | refine ka_' ?_ _)); exact BK624.out) hb); have n1_ := sk_' (pp_' (by repeat (first | (with_reducible first | exact HB.out | apply pa_' | apply pn_' | apply pd_' | refine pt_' ?_ GE624.out) | exact HB.out)) hb); clear BK624; clear HB; have BK624 := n0_; have HB := n1_; clear n0_ n1_; (try clear hb); (try clear hb2); (try clear hk); (try clear hi); have hcz10_0 : w9.cell? ⟨gb624, 0, none⟩ = some (.int .i64 0) := (kc_' BK624.out 0).trans rfl; have hcz10_1 : w9.cell? ⟨gb624, 1, none⟩ = some (.int .i64 0) := (kc_' BK624.out 1).trans rfl; have hfz10_0 := kf_' BK624.out 0; have hfz10_1 := kf_' BK624.out 1))
   refine bodyPost_ret (results_ct rfl _ _ gb624 95 #[.int .i64 t627, .int .i64 t628] (0, 0) _ rfl (by (with_reducible repeat (first | refine kn_' ?_ _ | refine kd_' ?_ | refine ka_' ?_ _)); refine blk_put (cs := #[.int .i64 t627, .int .i64 0]) ?_ 1 _ rfl; (with_reducible repeat (first | refine kn_' ?_ _ | refine kd_' ?_ | refine ka_' ?_ _)); refine blk_put (cs := #[.int .i64 0, .int .i64 0]) ?_ 0 _ rfl; (with_reducible repeat (first | refine kn_' ?_ _ | refine kd_' ?_ | refine ka_' ?_ _)); exact BK624.out) Try.underlying95 rfl (by kernel_rfl)) rfl ?_
   exact ⟨by first | rfl | (simp [errW_none, errW_some] <;> rfl) | (simp [*, errW_none, errW_some] <;> rfl), by repeat (first | (with_reducible first | exact HB.out | apply pa_' | apply pn_' | apply pd_' | refine pt_' ?_ GE624.out) | exact HB.out)⟩
  replace c6 := Bool.eq_false_iff.mpr c6
  subst c6
  rw [if_neg (show ¬ (false = true) by decide)] at H
  simp only [Option.some.injEq, Prod.mk.injEq] at H
  obtain ⟨rfl, rfl, rfl⟩ := H
  go_enter Try.func119, Try.ntmps119
  go_wp2_with (first | ((with_reducible refine gate_dst (N := 4) rfl ?_); refine box_event ?hg (N := 4) ?hd (cs := #[.int .i64 0, .int .i64 0]) (t := 95) ?hr ?_; (case hd => rfl); (case hg => rfl); (case hr => first | (go_simp; done) | (go_simp; rfl)); intro gb624 hg w11 hbox hb; have n0_ := sk_' (pp_' (by repeat (first | (with_reducible first | exact HB.out | apply pa_' | apply pn_' | apply pd_') | exact HB.out)) hb); have n1_ := sk_' (hbox); have n2_ := sk_' ((by rw [hg]; exact (ps_' (by repeat (first | (with_reducible first | exact HB.out | apply pa_' | apply pn_' | apply pd_') | exact HB.out))) : w.heap.size ≤ gb624)); have n3_ := sk_' ((by rw [hg]; exact (ps_' (by repeat (first | (with_reducible first | exact HB.out | apply pa_' | apply pn_' | apply pd_') | exact HB.out))) : w.heap.size ≤ gb624)); clear HB; have HB := n0_; have BK624 := n1_; have GW624 := n2_; have GE624 := n3_; clear n0_ n1_ n2_ n3_; clear hb hbox hg) | ((with_reducible refine xj_' (f := 86) rfl ?_); refine goesL_ (some 7) rfl rfl Try.func86 (by kernel_rfl) rfl #[.int .i64 a0, .int .i64 (-1000000000000000), .int .i64 1000000000000000] rfl (by (try simp only [xm_', xc_', xn_']); first | done | rfl | (simp only [xd_', xt_']; rfl)) ?_; (with_reducible refine (impl_InRange.calls a0 (-1000000000000000) 1000000000000000 true _ A3.out).mono ?_); rintro e w' ⟨rfl, ⟨nd, rfl⟩⟩; refine ⟨_, rfl, ?_⟩; (try (rw [drewN_self w11]; generalize hq_ : World.drewN w11 _ = w11; have n0_ : Aside0 (w11.heap[gb624]? = some (.cells #[.int .i64 0, .int .i64 0] 95 (0, 0))) := ⟨by rw [← hq_]; exact (by (with_reducible repeat (first | refine kn_' ?_ _ | refine kd_' ?_ | refine ka_' ?_ _)); exact BK624.out)⟩; have n1_ : Aside0 (Below w.heap.size w w11) := ⟨by rw [← hq_]; exact (by repeat (first | (with_reducible first | exact HB.out | apply pa_' | apply pn_' | apply pd_' | refine pt_' ?_ GE624.out) | exact HB.out))⟩; clear BK624 HB hq_; have BK624 := n0_; have HB := n1_; clear n0_ n1_))) | (go_at_call 86; (with_reducible refine (impl_InRange.calls a1 (-1000000000000000) 1000000000000000 false _ A5.out).mono ?_); rintro e w' ⟨rfl, ⟨nd, rfl⟩⟩; (try (rw [drewN_self w11]; generalize hq_ : World.drewN w11 _ = w11; have n0_ : Aside0 (w11.heap[gb624]? = some (.cells #[.int .i64 0, .int .i64 0] 95 (0, 0))) := ⟨by rw [← hq_]; exact (by (with_reducible repeat (first | refine kn_' ?_ _ | refine kd_' ?_ | refine ka_' ?_ _)); exact BK624.out)⟩; have n1_ : Aside0 (Below w.heap.size w w11) := ⟨by rw [← hq_]; exact (by repeat (first | (with_reducible first | exact HB.out | apply pa_' | apply pn_' | apply pd_' | refine pt_' ?_ GE624.out) | exact HB.out))⟩; clear BK624 HB hq_; have BK624 := n0_; have HB := n1_; clear n0_ n1_)); have hcz12_0 : w11.cell? ⟨gb624, 0, none⟩ = some (.int .i64 0) := (kc_' BK624.out 0).trans rfl; have hcz12_1 : w11.cell? ⟨gb624, 1, none⟩ = some (.int .i64 0) := (kc_' BK624.out 1).trans rfl; have hfz12_0 := kf_' BK624.out 0; have hfz12_1 := kf_' BK624.out 1))
  refine bodyPost_ret (results_ct rfl _ _ gb624 95 #[.int .i64 0, .int .i64 0] (0, 0) _ rfl (by (with_reducible repeat (first | refine kn_' ?_ _ | refine kd_' ?_ | refine ka_' ?_ _)); refine blk_put (cs := #[.int .i64 0, .int .i64 0]) ?_ 1 _ rfl; (with_reducible repeat (first | refine kn_' ?_ _ | refine kd_' ?_ | refine ka_' ?_ _)); refine blk_put (cs := #[.int .i64 0, .int .i64 0]) ?_ 0 _ rfl; (with_reducible repeat (first | refine kn_' ?_ _ | refine kd_' ?_ | refine ka_' ?_ _)); exact BK624.out) Try.underlying95 rfl (by kernel_rfl)) rfl ?_
  exact ⟨by first | rfl | (simp [errW_none, errW_some] <;> rfl) | (simp [*, errW_none, errW_some] <;> rfl), by repeat (first | (with_reducible first | exact HB.out | apply pa_' | apply pn_' | apply pd_' | refine pt_' ?_ GE624.out) | exact HB.out)⟩
 replace c4 := Bool.eq_false_iff.mpr c4
 subst c4
 rw [if_neg (show ¬ (false = true) by decide)] at H
 simp only [Option.some.injEq, Prod.mk.injEq] at H
 obtain ⟨rfl, rfl, rfl⟩ := H
 go_enter Try.func119, Try.ntmps119
 go_wp2_with (first | ((with_reducible refine gate_dst (N := 4) rfl ?_); refine box_event ?hg (N := 4) ?hd (cs := #[.int .i64 0, .int .i64 0]) (t := 95) ?hr ?_; (case hd => rfl); (case hg => rfl); (case hr => first | (go_simp; done) | (go_simp; rfl)); intro gb624 hg w13 hbox hb; have n0_ := sk_' (pp_' (by repeat (first | (with_reducible first | exact HB.out | apply pa_' | apply pn_' | apply pd_') | exact HB.out)) hb); have n1_ := sk_' (hbox); have n2_ := sk_' ((by rw [hg]; exact (ps_' (by repeat (first | (with_reducible first | exact HB.out | apply pa_' | apply pn_' | apply pd_') | exact HB.out))) : w.heap.size ≤ gb624)); have n3_ := sk_' ((by rw [hg]; exact (ps_' (by repeat (first | (with_reducible first | exact HB.out | apply pa_' | apply pn_' | apply pd_') | exact HB.out))) : w.heap.size ≤ gb624)); clear HB; have HB := n0_; have BK624 := n1_; have GW624 := n2_; have GE624 := n3_; clear n0_ n1_ n2_ n3_; clear hb hbox hg) | ((with_reducible refine xj_' (f := 86) rfl ?_); refine goesL_ (some 7) rfl rfl Try.func86 (by kernel_rfl) rfl #[.int .i64 a0, .int .i64 (-1000000000000000), .int .i64 1000000000000000] rfl (by (try simp only [xm_', xc_', xn_']); first | done | rfl | (simp only [xd_', xt_']; rfl)) ?_; (with_reducible refine (impl_InRange.calls a0 (-1000000000000000) 1000000000000000 false _ A3.out).mono ?_); rintro e w' ⟨rfl, ⟨nd, rfl⟩⟩; refine ⟨_, rfl, ?_⟩; (try (rw [drewN_self w13]; generalize hq_ : World.drewN w13 _ = w13; have n0_ : Aside0 (w13.heap[gb624]? = some (.cells #[.int .i64 0, .int .i64 0] 95 (0, 0))) := ⟨by rw [← hq_]; exact (by (with_reducible repeat (first | refine kn_' ?_ _ | refine kd_' ?_ | refine ka_' ?_ _)); exact BK624.out)⟩; have n1_ : Aside0 (Below w.heap.size w w13) := ⟨by rw [← hq_]; exact (by repeat (first | (with_reducible first | exact HB.out | apply pa_' | apply pn_' | apply pd_' | refine pt_' ?_ GE624.out) | exact HB.out))⟩; clear BK624 HB hq_; have BK624 := n0_; have HB := n1_; clear n0_ n1_)); have hcz14_0 : w13.cell? ⟨gb624, 0, none⟩ = some (.int .i64 0) := (kc_' BK624.out 0).trans rfl; have hcz14_1 : w13.cell? ⟨gb624, 1, none⟩ = some (.int .i64 0) := (kc_' BK624.out 1).trans rfl; have hfz14_0 := kf_' BK624.out 0; have hfz14_1 := kf_' BK624.out 1))
 refine bodyPost_ret (results_ct rfl _ _ gb624 95 #[.int .i64 0, .int .i64 0] (0, 0) _ rfl (by (with_reducible repeat (first | refine kn_' ?_ _ | refine kd_' ?_ | refine ka_' ?_ _)); refine blk_put (cs := #[.int .i64 0, .int .i64 0]) ?_ 1 _ rfl; (with_reducible repeat (first | refine kn_' ?_ _ | refine kd_' ?_ | refine ka_' ?_ _)); refine blk_put (cs := #[.int .i64 0, .int .i64 0]) ?_ 0 _ rfl; (with_reducible repeat (first | refine kn_' ?_ _ | refine kd_' ?_ | refine ka_' ?_ _)); exact BK624.out) Try.underlying95 rfl (by kernel_rfl)) rfl ?_
 exact ⟨by first | rfl | (simp [errW_none, errW_some] <;> rfl) | (simp [*, errW_none, errW_some] <;> rfl), by repeat (first | (with_reducible first | exact HB.out | apply pa_' | apply pn_' | apply pd_' | refine pt_' ?_ GE624.out) | exact HB.out)⟩
end Go.Proofs.Ytbhlmeghbfmgiaa.F

namespace Go.Proofs.Ytbhlmeghbfmgiaa.F
open Go.RowKit Go.Proofs.YtbhlmeghbfmgiaaW.PrintWords Go.Proofs.YtbhlmeghbfmgiaaW.PrintLast Go.Proofs.YtbhlmeghbfmgiaaW.PrintMore
attribute [local go_sem] max2_int min2_int max_two min_two max_three min_three max_four min_four
set_option linter.unusedVariables false
set_option linter.unusedSimpArgs false
def impl_AddRatio.f (k : Nat) (a0_0 : Int) (a0_1 : Int) (a1_0 : Int) (a1_1 : Int) : Option (Int × Int × Bool) := (impl_IsRatio.f k a0_0 a0_1).bind fun t633 => (if t633 = true then ((impl_IsRatio.f k a1_0 a1_1).bind fun t634 => (if t634 = true then ((impl_lowest.f k (wrap64 ((wrap64 (a0_0 * a1_1)) + (wrap64 (a1_0 * a0_1)))) (wrap64 (a0_1 * a1_1))).bind fun bt635 => (some (bt635.1, bt635.2.1, bt635.2.2))) else (some (0, 0, false)))) else (some (0, 0, false)))
set_option maxHeartbeats 8000000 in
set_option maxRecDepth 100000 in
theorem impl_AddRatio.calls (k : Nat) (a0_0 : Int) (a0_1 : Int) (a1_0 : Int) (a1_1 : Int) (r1 : Int) (r2 : Int) (r3 : Bool) (w : World) (h : impl_AddRatio.f k a0_0 a0_1 a1_0 a1_1 = some (r1, r2, r3)) :
  Calls Try.prog 120 #[.agg #[.int .i64 a0_0, .int .i64 a0_1], .agg #[.int .i64 a1_0, .int .i64 a1_1]] w fun e w' => e = .returned (.tuple #[.agg #[.int .i64 r1, .int .i64 r2], .bool r3]) ∧ Below w.heap.size w w' := by
 have hu := Try.underlying95
 have F := sk_' (Fr.of (Below.refl w.heap.size w))
 have H := h
 clear h
 unfold impl_AddRatio.f at H
 replace H := bs_' H
 obtain ⟨t1, B_, H⟩ := H
 have A1 := sk_' B_
 clear B_
 have HA := sk_' H
 clear H
 go_enter Try.func120, Try.ntmps120
 go_upto_region 1 with (first
  | ((with_reducible refine gate_dst (N := 2) rfl ?_); refine box_event ?hg (N := 2) ?hd (cs := #[.int .i64 a0_0, .int .i64 a0_1]) (t := 95) ?hr ?_; (case hd => rfl); (case hg => rfl); (case hr => first | (go_simp; done) | (go_simp; rfl)); intro ga hg w1 hbox hb; have F1 := sk_' (F.out.push hg hbox hb); clear F hbox hb hg; have F := F1; clear F1)
  | ((with_reducible refine gate_dst (N := 3) rfl ?_); refine box_event ?hg (N := 3) ?hd (cs := #[.int .i64 a1_0, .int .i64 a1_1]) (t := 95) ?hr ?_; (case hd => rfl); (case hg => rfl); (case hr => first | (go_simp; done) | (go_simp; rfl)); intro gb hg w2 hbox hb; have F1 := sk_' (F.out.push hg hbox hb); clear F hbox hb hg; have F := F1; clear F1)
  | ((with_reducible refine gate_dst (N := 4) rfl ?_); refine box_event ?hg (N := 4) ?hd (cs := #[.int .i64 0, .int .i64 0]) (t := 95) ?hr ?_; (case hd => rfl); (case hg => rfl); (case hr => first | (go_simp; done) | (go_simp; rfl)); intro gr hg w3 hbox hb; have F1 := sk_' (F.out.push hg hbox hb); clear F hbox hb hg; have F := F1; clear F1; obtain ⟨gac0, gac1, gaf0, gaf1⟩ := F.out.c2 (i := 0) rfl; obtain ⟨gbc0, gbc1, gbf0, gbf1⟩ := F.out.c2 (i := 1) rfl; obtain ⟨grc0, grc1, grf0, grf1⟩ := F.out.c2 (i := 2) rfl))
 have H := HA.out
 clear HA
 cases t1 with
 | false =>
  simp only [Bool.false_eq_true, if_false, Option.some.injEq, Prod.mk.injEq] at H
  obtain ⟨rfl, rfl, rfl⟩ := H
  go_wp2_with (first
   | (go_at_call 62; (with_reducible refine (impl_IsRatio.calls k a0_0 a0_1 false _ A1.out).mono ?_); rintro e w4 ⟨rfl, hb⟩; have F1 := sk_' (F.out.step hb); clear gac0 gac1 gaf0 gaf1 gbc0 gbc1 gbf0 gbf1 grc0 grc1 grf0 grf1; clear F hb; have F := F1; clear F1; obtain ⟨grc0, grc1, grf0, grf1⟩ := F.out.c2 (i := 2) rfl))
  refine bodyPost_ret (results_ct rfl _ _ gr 95 #[.int .i64 0, .int .i64 0] (0, 0) _ rfl ((F.out.put2 (i := 2) rfl (.int .i64 0) (.int .i64 0)).get (i := 2) (by rfl)) hu rfl (by kernel_rfl)) rfl ?_
  exact ⟨rfl, (F.out.put2 (i := 2) rfl (.int .i64 0) (.int .i64 0)).below⟩
 | true =>
  simp only [if_true] at H
  replace H := bs_' H
  obtain ⟨t2, B_, H⟩ := H
  have A2 := sk_' B_
  clear B_
  cases t2 with
  | false =>
   simp only [Bool.false_eq_true, if_false, Option.some.injEq, Prod.mk.injEq] at H
   obtain ⟨rfl, rfl, rfl⟩ := H
   go_wp2_with (first
    | (go_at_call 62; (with_reducible refine (impl_IsRatio.calls k a0_0 a0_1 true _ A1.out).mono ?_); rintro e w4 ⟨rfl, hb⟩; have F1 := sk_' (F.out.step hb); clear gac0 gac1 gaf0 gaf1 gbc0 gbc1 gbf0 gbf1 grc0 grc1 grf0 grf1; clear F hb; have F := F1; clear F1; obtain ⟨gbc0, gbc1, gbf0, gbf1⟩ := F.out.c2 (i := 1) rfl)
    | (go_at_call 62; (with_reducible refine (impl_IsRatio.calls k a1_0 a1_1 false _ A2.out).mono ?_); rintro e w5 ⟨rfl, hb⟩; have F1 := sk_' (F.out.step hb); clear gbc0 gbc1 gbf0 gbf1; clear F hb; have F := F1; clear F1; obtain ⟨grc0, grc1, grf0, grf1⟩ := F.out.c2 (i := 2) rfl))
   refine bodyPost_ret (results_ct rfl _ _ gr 95 #[.int .i64 0, .int .i64 0] (0, 0) _ rfl ((F.out.put2 (i := 2) rfl (.int .i64 0) (.int .i64 0)).get (i := 2) (by rfl)) hu rfl (by kernel_rfl)) rfl ?_
   exact ⟨rfl, (F.out.put2 (i := 2) rfl (.int .i64 0) (.int .i64 0)).below⟩
  | true =>
   simp only [if_true] at H
   replace H := bs_' H
   obtain ⟨⟨p1, p2, p3⟩, B_, H⟩ := H
   have A3 := sk_' B_
   clear B_
   simp only [Option.some.injEq, Prod.mk.injEq] at H
   obtain ⟨rfl, rfl, rfl⟩ := H
   go_wp2_with (first
    | (go_at_call 62; (with_reducible refine (impl_IsRatio.calls k a0_0 a0_1 true _ A1.out).mono ?_); rintro e w4 ⟨rfl, hb⟩; have F1 := sk_' (F.out.step hb); clear gac0 gac1 gaf0 gaf1 gbc0 gbc1 gbf0 gbf1 grc0 grc1 grf0 grf1; clear F hb; have F := F1; clear F1; obtain ⟨gbc0, gbc1, gbf0, gbf1⟩ := F.out.c2 (i := 1) rfl)
    | (go_at_call 62; (with_reducible refine (impl_IsRatio.calls k a1_0 a1_1 true _ A2.out).mono ?_); rintro e w5 ⟨rfl, hb⟩; have F1 := sk_' (F.out.step hb); clear gbc0 gbc1 gbf0 gbf1; clear F hb; have F := F1; clear F1; obtain ⟨gac0, gac1, gaf0, gaf1⟩ := F.out.c2 (i := 0) rfl; obtain ⟨gbc0, gbc1, gbf0, gbf1⟩ := F.out.c2 (i := 1) rfl)
    | (go_at_call 154; (with_reducible refine (impl_lowest.calls k (wrap64 ((wrap64 (a0_0 * a1_1)) + (wrap64 (a1_0 * a0_1)))) (wrap64 (a0_1 * a1_1)) p1 p2 p3 _ A3.out).mono ?_); rintro e w6 ⟨rfl, hb⟩; have F1 := sk_' (F.out.step hb); clear gac0 gac1 gaf0 gaf1 gbc0 gbc1 gbf0 gbf1; clear F hb; have F := F1; clear F1; obtain ⟨grc0, grc1, grf0, grf1⟩ := F.out.c2 (i := 2) rfl))
   refine bodyPost_ret (results_ct rfl _ _ gr 95 #[.int .i64 p1, .int .i64 p2] (0, 0) _ rfl ((F.out.put2 (i := 2) rfl (.int .i64 p1) (.int .i64 p2)).get (i := 2) (by rfl)) hu rfl (by kernel_rfl)) rfl ?_
   exact ⟨rfl, (F.out.put2 (i := 2) rfl (.int .i64 p1) (.int .i64 p2)).below⟩
end Go.Proofs.Ytbhlmeghbfmgiaa.F

namespace Go.Proofs.Ytbhlmeghbfmgiaa.F
open Go.RowKit Go.Proofs.YtbhlmeghbfmgiaaW.PrintWords Go.Proofs.YtbhlmeghbfmgiaaW.PrintLast Go.Proofs.YtbhlmeghbfmgiaaW.PrintMore
attribute [local go_sem] max2_int min2_int max_two min_two max_three min_three max_four min_four
set_option linter.unusedVariables false
set_option linter.unusedSimpArgs false
mutual
def impl_TimeOf.j0 : Nat → List (S151) → Int → Bool → Option (Int × Int × Bool)
 | 0, _, _, _ => none
 | k + 1, x0, x1, x21 => if x21 = true then (some (0, 0, false)) else (impl_TimeOf.l0 k x0 x1 x0 (x0.length : Int) 0 0 1)
def impl_TimeOf.l0 : Nat → List (S151) → Int → List (S151) → Int → Int → Int → Int → Option (Int × Int × Bool)
 | 0, _, _, _, _, _, _, _ => none
 | k + 1, x0, x1, x24, x25, x26, x642000, x642001 => if x26 < x25 then (if 0 ≤ x26 then (if x26 < (x24.length : Int) then (if (wrap64 (x26 + 1)) < (x0.length : Int) then (if 0 ≤ (wrap64 (x26 + 1)) then (impl_TimeOf.j2 k x0 x1 (mn x1 ((rd_T151 x0 (wrap64 (x26 + 1))).f0)) x24 x25 x26 x642000 x642001 ((rd_T151 x24 x26).f0) ((rd_T151 x24 x26).f1)) else (none)) else (impl_TimeOf.j2 k x0 x1 x1 x24 x25 x26 x642000 x642001 ((rd_T151 x24 x26).f0) ((rd_T151 x24 x26).f1))) else (none)) else (none)) else (some (x642000, x642001, true))
def impl_TimeOf.j2 : Nat → List (S151) → Int → Int → List (S151) → Int → Int → Int → Int → Int → Int → Option (Int × Int × Bool)
 | 0, _, _, _, _, _, _, _, _, _, _ => none
 | k + 1, x0, x1, x9, x24, x25, x26, x642000, x642001, x644000, x644001 => if x9 ≤ x644000 then (some (x642000, x642001, true)) else ((impl_MakeRatio.f k (wrap64 ((wrap64 (x9 - x644000)) * 5000)) x644001).bind fun bt645 => ((impl_AddRatio.f k x642000 x642001 bt645.1 bt645.2.1).bind fun bt649 => (if bt645.2.2 = true then (if bt649.2.2 = true then (impl_TimeOf.l0 k x0 x1 x24 x25 (wrap64 (x26 + 1)) bt649.1 bt649.2.1) else (some (0, 0, false))) else (some (0, 0, false)))))
end
def impl_TimeOf.f (k : Nat) (l0 : List (S151)) (a1 : Int) : Option (Int × Int × Bool) := (impl_IsTempo.f k l0).bind fun t639 => (if t639 = true then ((impl_InRange.f a1 0 2000).bind fun t640 => (impl_TimeOf.j0 k l0 a1 (!t640))) else (impl_TimeOf.j0 k l0 a1 true))
set_option maxHeartbeats 8000000 in
set_option maxRecDepth 100000 in
theorem impl_TimeOf.calls (k : Nat) (A0 : Option Addr) (c0 : Nat) (l0 : List (S151)) (a1 : Int) (r1 : Int) (r2 : Int) (r3 : Bool) (w : World) (hr0 : Kd.C k151 w A0 l0.length l0) (hc0 : l0.length ≤ c0) (h : impl_TimeOf.f k l0 a1 = some (r1, r2, r3)) :
  Calls Try.prog 57 #[.slice A0 l0.length c0, .int .i64 a1] w fun e w' => e = .returned (.tuple #[.agg #[.int .i64 r1, .int .i64 r2], .bool r3]) ∧ Below w.heap.size w w' := by
 have hu := Try.underlying95
 have HR0 := sk_' hr0
 have HC0 := sk_' hc0
 clear hr0 hc0
 have F := sk_' (Fr.of (Below.refl w.heap.size w))
 have H := h
 clear h
 unfold impl_TimeOf.f at H
 replace H := bs_' H
 obtain ⟨t1, B_, H⟩ := H
 have A1 := sk_' B_
 clear B_
 have HA := sk_' H
 clear H
 go_enter Try.func57, Try.ntmps57
 go_upto_region 1 with (first
  | ((with_reducible refine gate_dst (N := 4) rfl ?_); refine box_event ?hg (N := 4) ?hd (cs := #[.int .i64 0, .int .i64 0]) (t := 95) ?hr ?_; (case hd => rfl); (case hg => rfl); (case hr => first | (go_simp; done) | (go_simp; rfl)); intro gr hg w2 hbox hb; have F1 := sk_' (F.out.push hg hbox hb); clear F hbox hb hg; have F := F1; clear F1))
 (try simp only [Act.put, sa_', sz_', sc_'])
 go_cut [21] (fun vc wc => ∃ (kq : Nat) (b : Bool), vc = .bool b ∧ Aside0 (impl_TimeOf.j0 kq l0 a1 b = some (r1, r2, r3)) ∧ Aside0 (Fr w wc [(gr, .cells #[.int .i64 0, .int .i64 0] 95 (0, 0))]))
 case first =>
  have H := HA.out
  clear HA
  cases t1 with
  | false =>
   simp only [Bool.false_eq_true, if_false] at H
   go_wp2_with (first
    | (go_at_call 65; (with_reducible refine (impl_IsTempo.calls k A0 c0 l0 false _ ?s1 HC0.out A1.out).mono ?_); (case s1 => exact Kd.C_below HR0.out F.out.below); rintro e w3 ⟨rfl, hb⟩; have F1 := sk_' (F.out.step hb); clear F hb; have F := F1; clear F1))
   go_meet
   case rel => exact ⟨k, true, (by first | rfl | (simp; done) | (simp [*]; done)), ⟨H⟩, F⟩
  | true =>
   simp only [if_true] at H
   replace H := bs_' H
   obtain ⟨t2, B_, H⟩ := H
   have A2 := sk_' B_
   clear B_
   have HA := sk_' H
   clear H
   cases t2
   all_goals
    go_wp2_with (first
     | (go_at_call 65; (with_reducible refine (impl_IsTempo.calls k A0 c0 l0 true _ ?s1 HC0.out A1.out).mono ?_); (case s1 => exact Kd.C_below HR0.out F.out.below); rintro e w3 ⟨rfl, hb⟩; have F1 := sk_' (F.out.step hb); clear F hb; have F := F1; clear F1)
     | (go_at_call 86; (with_reducible refine (impl_InRange.calls a1 0 2000 _ _ A2.out).mono ?_); rintro e w4 ⟨rfl, hb⟩; have F1 := sk_' (F.out.drawn hb); clear F hb; have F := F1; clear F1))
    go_meet
    case rel => exact ⟨k, _, (by first | rfl | (simp; done) | (simp [*]; done)), HA, F⟩
 case rest =>
  clear HA F A1
  obtain ⟨kq, b, rfl, HA, F⟩ := hcut
  cases kq with
  | zero => exact absurd HA.out (by simp [impl_TimeOf.j0])
  | succ kj =>
   have H := HA.out
   clear HA
   simp only [impl_TimeOf.j0] at H
   cases b with
   | true =>
    simp only [if_true, Option.some.injEq, Prod.mk.injEq] at H
    obtain ⟨rfl, rfl, rfl⟩ := H
    obtain ⟨grc0, grc1, grf0, grf1⟩ := F.out.c2 (i := 0) rfl
    go_wp2
    refine bodyPost_ret (results_ct rfl _ _ gr 95 #[.int .i64 0, .int .i64 0] (0, 0) _ rfl ((F.out.put2 (i := 0) rfl (.int .i64 0) (.int .i64 0)).get (i := 0) (by rfl)) hu rfl (by kernel_rfl)) rfl ?_
    exact ⟨rfl, (F.out.put2 (i := 0) rfl (.int .i64 0) (.int .i64 0)).below⟩
   | false =>
    simp only [Bool.false_eq_true, if_false] at H
    have HA := sk_' H
    clear H
    go_wp2_with (first
     | ((with_reducible refine gate_dst (N := 6) rfl ?_); refine box_event ?hg (N := 6) ?hd (cs := #[.int .i64 0, .int .i64 0]) (t := 95) ?hr ?_; (case hd => rfl); (case hg => rfl); (case hr => first | (go_simp; done) | (go_simp; rfl)); intro gs hg w5 hbox hb; have F1 := sk_' (F.out.push hg hbox hb); clear F hbox hb hg; have F := F1; clear F1; obtain ⟨gsc0, gsc1, gsf0, gsf1⟩ := F.out.c2 (i := 1) rfl)
     | ((with_reducible refine gate_store (t := 95) (p := 6) rfl ?_); refine store_event (t := 95) (p := 6) (v := ?vo_w6) (w1 := put2 w5 gs (.int .i64 0) (.int .i64 1)) ?hg ?ho ?hn ?hr ?_; (case ho => rfl); (case hg => rfl); (case hn => rfl); (case hr => unfold put2; first | (go_simp; done) | (go_simp; rfl)); intro w6 hw; have F1 := sk_' (F.out.put2 (i := 1) rfl (.int .i64 0) (.int .i64 1)); rw [← hw] at F1; clear gsc0 gsc1 gsf0 gsf1; clear F hw; have F := F1; clear F1))
    go_loopg [26] kj (fun kq vx w' => ∃ (x sn sd : Int), vx = .int .i64 x ∧ Aside0 (impl_TimeOf.l0 kq l0 a1 l0 (l0.length : Int) x sn sd = some (r1, r2, r3)) ∧ Aside0 (Fr w w' [(gr, .cells #[.int .i64 0, .int .i64 0] 95 (0, 0)), (gs, .cells #[.int .i64 sn, .int .i64 sd] 95 (0, 0))]))
    case atStart => exact ⟨0, 0, 1, (by first | rfl | (simp; done) | (simp [*]; done)), HA, F⟩
    case round =>
     clear HA F
     obtain ⟨x, sn, sd, rfl, HA, F⟩ := hrel
     cases gk with
     | zero => exact absurd HA.out (by simp [impl_TimeOf.l0])
     | succ k2 =>
      have H := HA.out
      clear HA
      simp only [impl_TimeOf.l0] at H
      by_cases c1 : x < (l0.length : Int)
      ·
       rw [if_pos c1] at H
       by_cases c2 : 0 ≤ x
       ·
        rw [if_pos c2, if_pos c1] at H
        obtain ⟨ad, e, hx0, hx1⟩ := at_T151 HR0.out x c2 c1
        cases e
        replace hx0 := (F.out.below.cell (bq_' w _ hx0)).trans hx0
        replace hx1 := (F.out.below.cell (bq_' w _ hx1)).trans hx1
        generalize (rd_T151 l0 x).f0 = p at H hx0
        generalize (rd_T151 l0 x).f1 = q at H hx1
        have cb1 : decide (x < (l0.length : Int)) = true := decide_eq_true c1
        replace c1 := eq_true c1
        replace c2 := eq_true c2
        obtain ⟨ji, hji⟩ : ∃ j_ : Int, wrap64 (x + 1) = j_ := ⟨_, rfl⟩
        have hjw : IntKind.i64.wrap (x + 1) = ji := (i64_w _).trans hji
        rw [hji] at H
        have HJ := sk_' hji
        have HA := sk_' H
        clear H hji
        go_upto_if 36 with (first
         | ((with_reducible refine gate_dst (N := 8) rfl ?_); refine box_event ?hg (N := 8) ?hd (cs := #[.int .i64 0, .int .i64 0]) (t := 151) ?hr ?_; (case hd => rfl); (case hg => rfl); (case hr => first | (go_simp; done) | (go_simp; rfl)); intro ge hg w7 hbox hb; have F1 := sk_' (F.out.push hg hbox hb); clear F hbox hb hg; have F := F1; clear F1; obtain ⟨gec0, gec1, gef0, gef1⟩ := F.out.c2 (i := 2) rfl; clear hx0 hx1)
         | ((with_reducible refine gate_store (t := 151) (p := 8) rfl ?_); refine store_event (t := 151) (p := 8) (v := ?vo_w8) (w1 := put2 w7 ge (.int .i64 p) (.int .i64 q)) ?hg ?ho ?hn ?hr ?_; (case ho => rfl); (case hg => rfl); (case hn => rfl); (case hr => unfold put2; first | (go_simp; done) | (go_simp; rfl)); intro w8 hw; have F1 := sk_' (F.out.put2 (i := 2) rfl (.int .i64 p) (.int .i64 q)); rw [← hw] at F1; clear gec0 gec1 gef0 gef1; clear F hw; have F := F1; clear F1))
        (try simp only [Act.put, sa_', sz_', sc_'])
        go_cut [9] (fun v9 wc => ∃ (e : Int), v9 = .int .i64 e ∧ Aside0 (impl_TimeOf.j2 k2 l0 a1 e l0 (l0.length : Int) x sn sd p q = some (r1, r2, r3)) ∧ Aside0 (Fr w wc [(gr, .cells #[.int .i64 0, .int .i64 0] 95 (0, 0)), (gs, .cells #[.int .i64 sn, .int .i64 sd] 95 (0, 0)), (ge, .cells #[.int .i64 p, .int .i64 q] 151 (0, 0))]))
        case first =>
         have H := HA.out
         clear HA
         by_cases e2 : ji < (l0.length : Int)
         ·
          rw [if_pos e2] at H
          have e2b : decide (ji < (l0.length : Int)) = true := decide_eq_true e2
          rw [e2b]
          by_cases e1 : 0 ≤ ji
          ·
           rw [if_pos e1] at H
           obtain ⟨ad2, e, hy0, hy1⟩ := at_T151 HR0.out ji e1 e2
           obtain rfl : ad = ad2 := by injection e
           replace hy0 := (F.out.below.cell (bq_' w _ hy0)).trans hy0
           clear hy1 e
           generalize (rd_T151 l0 ji).f0 = p2 at H hy0
           replace e1 := eq_true e1
           replace e2 := eq_true e2
           by_cases m : p2 < a1
           ·
            rw [show mn a1 p2 = p2 from if_pos m] at H
            replace m := eq_true m
            have HA := sk_' H
            clear H
            go_wp2
            go_meet
            case rel => exact ⟨p2, (by first | rfl | (simp; done) | (simp [*]; done)), HA, F⟩
           rw [show mn a1 p2 = a1 from if_neg m] at H
           replace m := eq_false m
           have HA := sk_' H
           clear H
           go_wp2
           go_meet
           case rel => exact ⟨a1, (by first | rfl | (simp; done) | (simp [*]; done)), HA, F⟩
          rw [if_neg e1] at H
          exact absurd H (by simp)
         rw [if_neg e2] at H
         have e2b : decide (ji < (l0.length : Int)) = false := decide_eq_false e2
         rw [e2b]
         clear e2
         have HA := sk_' H
         clear H
         go_wp2
         go_meet
         case rel => exact ⟨a1, (by first | rfl | (simp; done) | (simp [*]; done)), HA, F⟩
        case rest =>
         clear HA F hjw
         obtain ⟨e, rfl, HA, F⟩ := hcut
         cases k2 with
         | zero => exact absurd HA.out (by simp [impl_TimeOf.j2])
         | succ k3 =>
          have H := HA.out
          clear HA
          simp only [impl_TimeOf.j2] at H
          by_cases d1 : e ≤ p
          ·
           rw [if_pos d1] at H
           have d1b : decide (e ≤ p) = true := decide_eq_true d1
           clear d1
           simp only [Option.some.injEq, Prod.mk.injEq] at H
           obtain ⟨rfl, rfl, rfl⟩ := H
           obtain ⟨grc0, grc1, grf0, grf1⟩ := F.out.c2 (i := 0) rfl
           obtain ⟨gsc0, gsc1, gsf0, gsf1⟩ := F.out.c2 (i := 1) rfl
           obtain ⟨gec0, gec1, gef0, gef1⟩ := F.out.c2 (i := 2) rfl
           have hne := F.out.apart (i := 0) (j := 1) rfl rfl (by decide)
           go_wp2
           refine bodyPost_ret (results_ct rfl _ _ gr 95 #[.int .i64 sn, .int .i64 sd] (0, 0) _ rfl ((F.out.put2 (i := 0) rfl (.int .i64 sn) (.int .i64 sd)).get (i := 0) (by rfl)) hu rfl (by kernel_rfl)) rfl ?_
           exact ⟨rfl, (F.out.put2 (i := 0) rfl (.int .i64 sn) (.int .i64 sd)).below⟩
          rw [if_neg d1] at H
          have d1b : decide (e ≤ p) = false := decide_eq_false d1
          clear d1
          replace H := bs_' H
          obtain ⟨⟨q1, q2, q3⟩, B_, H⟩ := H
          have A2 := sk_' B_
          clear B_
          replace H := bs_' H
          obtain ⟨⟨s1, s2, s3⟩, B_, H⟩ := H
          have A3 := sk_' B_
          clear B_
          have HA := sk_' H
          clear H
          obtain ⟨gec0, gec1, gef0, gef1⟩ := F.out.c2 (i := 2) rfl
          go_upto_region 13 with (first
           | (go_at_call 119; (with_reducible refine (impl_MakeRatio.calls k3 (wrap64 ((wrap64 (e - p)) * 5000)) q q1 q2 q3 _ A2.out).mono ?_); rintro e w10 ⟨rfl, hb⟩; have F1 := sk_' (F.out.step hb); clear gec0 gec1 gef0 gef1; clear F hb; have F := F1; clear F1)
           | ((with_reducible refine gate_dst (N := 10) rfl ?_); refine box_event ?hg (N := 10) ?hd (cs := #[.int .i64 0, .int .i64 0]) (t := 95) ?hr ?_; (case hd => rfl); (case hg => rfl); (case hr => first | (go_simp; done) | (go_simp; rfl)); intro g10 hg w11 hbox hb; have F1 := sk_' (F.out.push hg hbox hb); clear F hbox hb hg; have F := F1; clear F1; obtain ⟨g10c0, g10c1, g10f0, g10f1⟩ := F.out.c2 (i := 3) rfl)
           | ((with_reducible refine gate_store (t := 95) (p := 10) rfl ?_); refine store_event (t := 95) (p := 10) (v := ?vo_w12) (w1 := put2 w11 g10 (.int .i64 q1) (.int .i64 q2)) ?hg ?ho ?hn ?hr ?_; (case ho => rfl); (case hg => rfl); (case hn => rfl); (case hr => unfold put2; first | (go_simp; done) | (go_simp; rfl)); intro w12 hw; have F1 := sk_' (F.out.put2 (i := 3) rfl (.int .i64 q1) (.int .i64 q2)); rw [← hw] at F1; clear g10c0 g10c1 g10f0 g10f1; clear F hw; have F := F1; clear F1; obtain ⟨gsc0, gsc1, gsf0, gsf1⟩ := F.out.c2 (i := 1) rfl; obtain ⟨g10c0, g10c1, g10f0, g10f1⟩ := F.out.c2 (i := 3) rfl)
           | (go_at_call 120; (with_reducible refine (impl_AddRatio.calls k3 sn sd q1 q2 s1 s2 s3 _ A3.out).mono ?_); rintro e w13 ⟨rfl, hb⟩; have F1 := sk_' (F.out.step hb); clear gsc0 gsc1 gsf0 gsf1 g10c0 g10c1 g10f0 g10f1; clear F hb; have F := F1; clear F1)
           | ((with_reducible refine gate_dst (N := 12) rfl ?_); refine box_event ?hg (N := 12) ?hd (cs := #[.int .i64 0, .int .i64 0]) (t := 95) ?hr ?_; (case hd => rfl); (case hg => rfl); (case hr => first | (go_simp; done) | (go_simp; rfl)); intro g12 hg w14 hbox hb; have F1 := sk_' (F.out.push hg hbox hb); clear F hbox hb hg; have F := F1; clear F1; obtain ⟨g12c0, g12c1, g12f0, g12f1⟩ := F.out.c2 (i := 4) rfl)
           | ((with_reducible refine gate_store (t := 95) (p := 12) rfl ?_); refine store_event (t := 95) (p := 12) (v := ?vo_w15) (w1 := put2 w14 g12 (.int .i64 s1) (.int .i64 s2)) ?hg ?ho ?hn ?hr ?_; (case ho => rfl); (case hg => rfl); (case hn => rfl); (case hr => unfold put2; first | (go_simp; done) | (go_simp; rfl)); intro w15 hw; have F1 := sk_' (F.out.put2 (i := 4) rfl (.int .i64 s1) (.int .i64 s2)); rw [← hw] at F1; clear g12c0 g12c1 g12f0 g12f1; clear F hw; have F := F1; clear F1))
          have H := HA.out
          clear HA
          cases q3 with
          | false =>
           simp only [Bool.false_eq_true, if_false, if_true, Option.some.injEq, Prod.mk.injEq] at H
           obtain ⟨rfl, rfl, rfl⟩ := H
           obtain ⟨grc0, grc1, grf0, grf1⟩ := F.out.c2 (i := 0) rfl
           go_wp2
           refine bodyPost_ret (results_ct rfl _ _ gr 95 #[.int .i64 0, .int .i64 0] (0, 0) _ rfl ((F.out.put2 (i := 0) rfl (.int .i64 0) (.int .i64 0)).get (i := 0) (by rfl)) hu rfl (by kernel_rfl)) rfl ?_
           exact ⟨rfl, (F.out.put2 (i := 0) rfl (.int .i64 0) (.int .i64 0)).below⟩
          | true =>
           cases s3 with
           | false =>
            simp only [Bool.false_eq_true, if_false, if_true, Option.some.injEq, Prod.mk.injEq] at H
            obtain ⟨rfl, rfl, rfl⟩ := H
            obtain ⟨grc0, grc1, grf0, grf1⟩ := F.out.c2 (i := 0) rfl
            go_wp2
            refine bodyPost_ret (results_ct rfl _ _ gr 95 #[.int .i64 0, .int .i64 0] (0, 0) _ rfl ((F.out.put2 (i := 0) rfl (.int .i64 0) (.int .i64 0)).get (i := 0) (by rfl)) hu rfl (by kernel_rfl)) rfl ?_
            exact ⟨rfl, (F.out.put2 (i := 0) rfl (.int .i64 0) (.int .i64 0)).below⟩
           | true =>
            simp only [if_true] at H
            have HA := sk_' H
            clear H
            obtain ⟨gsc0, gsc1, gsf0, gsf1⟩ := F.out.c2 (i := 1) rfl
            obtain ⟨g12c0, g12c1, g12f0, g12f1⟩ := F.out.c2 (i := 4) rfl
            go_wp2_with (first
             | ((with_reducible refine gate_store (t := 95) (p := 6) rfl ?_); refine store_event (t := 95) (p := 6) (v := ?vo_w16) (w1 := put2 w15 gs (.int .i64 s1) (.int .i64 s2)) ?hg ?ho ?hn ?hr ?_; (case ho => rfl); (case hg => rfl); (case hn => rfl); (case hr => unfold put2; first | (go_simp; done) | (go_simp; rfl)); intro w16 hw; have F1 := sk_' (F.out.put2 (i := 1) rfl (.int .i64 s1) (.int .i64 s2)); rw [← hw] at F1; clear gsc0 gsc1 gsf0 gsf1 g12c0 g12c1 g12f0 g12f1; clear F hw; have F := F1; clear F1))
            go_roundg k3
            case measure => omega
            case rel => exact ⟨wrap64 (x + 1), s1, s2, (by first | rfl | (simp; done) | (simp [*]; done)), HA, ⟨F.out.take 2⟩⟩
       rw [if_neg c2] at H
       exact absurd H (by simp)
      rw [if_neg c1] at H
      have cb1 : decide (x < (l0.length : Int)) = false := decide_eq_false c1
      clear c1
      simp only [Option.some.injEq, Prod.mk.injEq] at H
      obtain ⟨rfl, rfl, rfl⟩ := H
      obtain ⟨grc0, grc1, grf0, grf1⟩ := F.out.c2 (i := 0) rfl
      obtain ⟨gsc0, gsc1, gsf0, gsf1⟩ := F.out.c2 (i := 1) rfl
      have hne := F.out.apart (i := 0) (j := 1) rfl rfl (by decide)
      go_wp2
      refine bodyPost_ret (results_ct rfl _ _ gr 95 #[.int .i64 sn, .int .i64 sd] (0, 0) _ rfl ((F.out.put2 (i := 0) rfl (.int .i64 sn) (.int .i64 sd)).get (i := 0) (by rfl)) hu rfl (by kernel_rfl)) rfl ?_
      exact ⟨rfl, (F.out.put2 (i := 0) rfl (.int .i64 sn) (.int .i64 sd)).below⟩
end Go.Proofs.Ytbhlmeghbfmgiaa.F

namespace Go.Proofs.Ytbhlmeghbfmgiaa.F
open Go.RowKit Go.Proofs.YtbhlmeghbfmgiaaW.PrintWords Go.Proofs.YtbhlmeghbfmgiaaW.PrintLast Go.Proofs.YtbhlmeghbfmgiaaW.PrintMore
attribute [local go_sem] max2_int min2_int max_two min_two max_three min_three max_four min_four
set_option linter.unusedVariables false
set_option linter.unusedSimpArgs false
def impl_Mod.f (a0 : Int) (a1 : Int) : Option (Int) := (impl_InRange.f a1 1 1000000000000).bind fun t653 => (if t653 = true then (if a1 = 0 then (none) else (some (Int.tmod (wrap64 ((Int.tmod a0 a1) + a1)) a1))) else (some 0))
set_option maxHeartbeats 8000000 in
set_option maxRecDepth 100000 in
theorem impl_Mod.calls (a0 : Int) (a1 : Int) (r : Int) (w : World) (h : impl_Mod.f a0 a1 = some r) :
  Calls Try.prog 138 #[.int .i64 a0, .int .i64 a1] w fun e w' => e = .returned (.int .i64 r) ∧ Drawn0 w w' := by
 have H : ((impl_InRange.f a1 1 1000000000000).bind fun t653 => (if t653 = true then (if a1 = 0 then (none) else (some (Int.tmod (wrap64 ((Int.tmod a0 a1) + a1)) a1))) else (some 0))) = some r := h
 clear h
 replace H := bs_' H
 obtain ⟨t653, A30, H⟩ := H
 try dsimp only at H
 have A3 := sk_' A30
 clear A30
 by_cases c4 : t653 = true
 ·
  subst c4
  rw [if_pos rfl] at H
  by_cases c5 : a1 = 0
  ·
   rw [if_pos c5] at H
   exact absurd H (by simp)
  rw [if_neg c5] at H
  have c5b0 : (a1 == 0) = false := beq_eq_false_iff_ne.mpr c5
  have c5b1 : (a1 != 0) = true := bne_iff_ne.mpr c5
  obtain rfl := Option.some.inj H
  go_enter Try.func138, Try.ntmps138
  go_wp2_with (first | ((with_reducible refine xj_' (f := 86) rfl ?_); refine goesL_ (some 6) rfl rfl Try.func86 (by kernel_rfl) rfl #[.int .i64 a1, .int .i64 1, .int .i64 1000000000000] rfl (by (try simp only [xm_', xc_', xn_']); first | done | rfl | (simp only [xd_', xt_']; rfl)) ?_; (with_reducible refine (impl_InRange.calls a1 1 1000000000000 true _ A3.out).mono ?_); rintro e w' ⟨rfl, ⟨nd, rfl⟩⟩; refine ⟨_, rfl, ?_⟩))
  go_ret
  exact ⟨by first | rfl | (simp; done) | (simp [*]; done), by repeat (first | exact Drawn0.refl _ | apply Drawn0.step)⟩
 replace c4 := Bool.eq_false_iff.mpr c4
 subst c4
 rw [if_neg (show ¬ (false = true) by decide)] at H
 obtain rfl := Option.some.inj H
 go_enter Try.func138, Try.ntmps138
 go_wp2_with (first | ((with_reducible refine xj_' (f := 86) rfl ?_); refine goesL_ (some 6) rfl rfl Try.func86 (by kernel_rfl) rfl #[.int .i64 a1, .int .i64 1, .int .i64 1000000000000] rfl (by (try simp only [xm_', xc_', xn_']); first | done | rfl | (simp only [xd_', xt_']; rfl)) ?_; (with_reducible refine (impl_InRange.calls a1 1 1000000000000 false _ A3.out).mono ?_); rintro e w' ⟨rfl, ⟨nd, rfl⟩⟩; refine ⟨_, rfl, ?_⟩))
 go_ret
 exact ⟨by first | rfl | (simp; done) | (simp [*]; done), by repeat (first | exact Drawn0.refl _ | apply Drawn0.step)⟩
end Go.Proofs.Ytbhlmeghbfmgiaa.F

namespace Go.Proofs.Ytbhlmeghbfmgiaa.F
open Go.RowKit Go.Proofs.YtbhlmeghbfmgiaaW.PrintWords Go.Proofs.YtbhlmeghbfmgiaaW.PrintLast Go.Proofs.YtbhlmeghbfmgiaaW.PrintMore
attribute [local go_sem] max2_int min2_int max_two min_two max_three min_three max_four min_four
set_option linter.unusedVariables false
set_option linter.unusedSimpArgs false
def impl_FloorRatio.f (k : Nat) (a0_0 : Int) (a0_1 : Int) : Option (Int) := (impl_IsRatio.f k a0_0 a0_1).bind fun t655 => (if t655 = true then ((impl_Mod.f a0_0 a0_1).bind fun t656 => (if a0_1 = 0 then (none) else (some (wrap64 (Int.tdiv (wrap64 (a0_0 - t656)) a0_1))))) else (some 0))
set_option maxHeartbeats 8000000 in
set_option maxRecDepth 100000 in
theorem impl_FloorRatio.calls (k : Nat) (a0_0 : Int) (a0_1 : Int) (r : Int) (w : World) (h : impl_FloorRatio.f k a0_0 a0_1 = some r) :
  Calls Try.prog 95 #[.agg #[.int .i64 a0_0, .int .i64 a0_1]] w fun e w' => e = .returned (.int .i64 r) ∧ Below w.heap.size w w' := by
 have F := sk_' (Fr.of (Below.refl w.heap.size w))
 have H := h
 clear h
 unfold impl_FloorRatio.f at H
 replace H := bs_' H
 obtain ⟨t1, B_, H⟩ := H
 have A1 := sk_' B_
 clear B_
 have HA := sk_' H
 clear H
 go_enter Try.func95, Try.ntmps95
 go_upto_region 1 with (first
  | ((with_reducible refine gate_dst (N := 1) rfl ?_); refine box_event ?hg (N := 1) ?hd (cs := #[.int .i64 a0_0, .int .i64 a0_1]) (t := 95) ?hr ?_; (case hd => rfl); (case hg => rfl); (case hr => first | (go_simp; done) | (go_simp; rfl)); intro ga hg w1 hbox hb; have F1 := sk_' (F.out.push hg hbox hb); clear F hbox hb hg; have F := F1; clear F1; obtain ⟨gac0, gac1, gaf0, gaf1⟩ := F.out.c2 (i := 0) rfl))
 have H := HA.out
 clear HA
 cases t1 with
 | false =>
  simp only [Bool.false_eq_true, if_false] at H
  obtain rfl := Option.some.inj H
  go_wp2_with (first
   | (go_at_call 62; (with_reducible refine (impl_IsRatio.calls k a0_0 a0_1 false _ A1.out).mono ?_); rintro e w2 ⟨rfl, hb⟩; have F1 := sk_' (F.out.step hb); clear gac0 gac1 gaf0 gaf1; clear F hb; have F := F1; clear F1))
  go_ret
  exact ⟨rfl, F.out.below⟩
 | true =>
  simp only [if_true] at H
  replace H := bs_' H
  obtain ⟨t2, B_, H⟩ := H
  have A2 := sk_' B_
  clear B_
  by_cases z1 : a0_1 = 0
  ·
   rw [if_pos z1] at H
   exact absurd H (by simp)
  rw [if_neg z1] at H
  have z1a : (a0_1 == 0) = false := beq_eq_false_iff_ne.mpr z1
  have z1b : (a0_1 != 0) = true := bne_iff_ne.mpr z1
  replace z1 := eq_false z1
  obtain rfl := Option.some.inj H
  go_wp2_with (first
   | (go_at_call 62; (with_reducible refine (impl_IsRatio.calls k a0_0 a0_1 true _ A1.out).mono ?_); rintro e w2 ⟨rfl, hb⟩; have F1 := sk_' (F.out.step hb); clear gac0 gac1 gaf0 gaf1; clear F hb; have F := F1; clear F1))
  obtain ⟨gac0, gac1, gaf0, gaf1⟩ := F.out.c2 (i := 0) rfl
  go_quiet ((first | (go_at_call 138; apply Calls.quiet_of; ((with_reducible refine (impl_Mod.calls a0_0 a0_1 t2 _ A2.out).mono ?_); exact fun _ _ h_ => ⟨h_.1, h_.2.out⟩))))
  have F1 := sk_' (F.out.step (pn_' (Below.refl _ w2) nq))
  clear gac0 gac1 gaf0 gaf1
  clear F
  generalize w2.drewN nq = w3 at F1 ⊢
  have F := F1
  clear F1
  go_wp2
  go_ret
  exact ⟨by first | rfl | (simp; done) | (simp [*]; done), F.out.below⟩
end Go.Proofs.Ytbhlmeghbfmgiaa.F

namespace Go.Proofs.Ytbhlmeghbfmgiaa.F
open Go.RowKit Go.Proofs.YtbhlmeghbfmgiaaW.PrintWords Go.Proofs.YtbhlmeghbfmgiaaW.PrintLast Go.Proofs.YtbhlmeghbfmgiaaW.PrintMore
attribute [local go_sem] max2_int min2_int max_two min_two max_three min_three max_four min_four
set_option linter.unusedVariables false
set_option linter.unusedSimpArgs false
def GrewW (w w1 : World) : Prop := ∃ q os, w1 = Go.Sort.grow (w.drewN q) os
theorem GrewW.refl (w : World) : GrewW w w := ⟨0, #[], by simp [Go.Sort.grow]; rfl⟩
theorem GrewW.drewN {w w1 : World} (h : GrewW w w1) (n : Nat) : GrewW w (w1.drewN n) := by
 obtain ⟨q, os, rfl⟩ := h
 exact ⟨q + n, os, by rw [← World.drewN_drewN]; rfl⟩
theorem GrewW.alloc {w w1 : World} (h : GrewW w w1) (o : Obj) : GrewW w (w1.alloc o) := by
 obtain ⟨q, os, rfl⟩ := h
 exact ⟨q, os ++ #[o], by rw [Go.Sort.alloc_eq_grow, Go.Sort.grow_grow]⟩
def cmI (a b : Int) : Int := if a < b then -1 else if b < a then 1 else 0
def cfP (x y : S49) : Int := if cmI x.f0 y.f0 = 0 then cmI x.f1 y.f1 else cmI x.f0 y.f0
theorem cmp_Compare_int.cm (a b : Int) : cmp_Compare_int.f a b = some (cmI a b) := by
 unfold cmp_Compare_int.f cmI cmp_isNaN_int.f
 simp
 repeat' split
 all_goals simp_all
theorem cmp_Or_int.cm (x y : Int) : cmp_Or_int.f 4 [x, y] = some (if x = 0 then y else x) := by
 simp [cmp_Or_int.f, cmp_Or_int.l0, rd, wrap64]
 repeat' split
 all_goals simp_all
set_option maxHeartbeats 8000000 in
set_option maxRecDepth 100000 in
theorem so_cmp (x y : S49) (w : World) : Calls Try.prog 140 #[.agg #[.int .i64 x.f0, .int .i64 x.f1], .agg #[.int .i64 y.f0, .int .i64 y.f1]] w fun e w' => e = .returned (.int .i64 (cfP x y)) ∧ GrewW w w' := by
 have hu_ := Try.underlying49
 obtain ⟨t1, ht1⟩ : ∃ t, cmp_Compare_int.f x.f0 y.f0 = some t := ⟨_, cmp_Compare_int.cm _ _⟩
 obtain ⟨t2, ht2⟩ : ∃ t, cmp_Compare_int.f x.f1 y.f1 = some t := ⟨_, cmp_Compare_int.cm _ _⟩
 obtain ⟨t3, ht3⟩ : ∃ t, cmp_Or_int.f 4 [t1, t2] = some t := ⟨_, cmp_Or_int.cm _ _⟩
 have hr3 : t3 = cfP x y := by
  rw [cmp_Compare_int.cm] at ht1 ht2
  rw [cmp_Or_int.cm] at ht3
  obtain rfl := Option.some.inj ht1
  obtain rfl := Option.some.inj ht2
  exact (Option.some.inj ht3).symm
 have A1 := sk_' ht1
 have A2 := sk_' ht2
 have A3 := sk_' ht3
 clear ht1 ht2 ht3
 have HG : Aside0 (GrewW w (((w.alloc (Obj.cells #[Value.int IntKind.i64 x.f0, Value.int IntKind.i64 x.f1] 49)).alloc (Obj.cells #[Value.int IntKind.i64 y.f0, Value.int IntKind.i64 y.f1] 49)).drew)) := ⟨(((GrewW.refl w).alloc _).alloc _).drewN 1⟩
 have BK1 : Aside0 ((((w.alloc (Obj.cells #[Value.int IntKind.i64 x.f0, Value.int IntKind.i64 x.f1] 49)).alloc (Obj.cells #[Value.int IntKind.i64 y.f0, Value.int IntKind.i64 y.f1] 49)).drew).heap[w.heap.size]? = some (Obj.cells #[Value.int IntKind.i64 x.f0, Value.int IntKind.i64 x.f1] 49 (0, 0))) := ⟨kd_' (ka_' (heap_alloc_new w _) _)⟩
 have BK2 : Aside0 ((((w.alloc (Obj.cells #[Value.int IntKind.i64 x.f0, Value.int IntKind.i64 x.f1] 49)).alloc (Obj.cells #[Value.int IntKind.i64 y.f0, Value.int IntKind.i64 y.f1] 49)).drew).heap[w.heap.size + 1]? = some (Obj.cells #[Value.int IntKind.i64 y.f0, Value.int IntKind.i64 y.f1] 49 (0, 0))) := ⟨kd_' (by have h_ := heap_alloc_new (w.alloc (Obj.cells #[Value.int IntKind.i64 x.f0, Value.int IntKind.i64 x.f1] 49)) (Obj.cells #[Value.int IntKind.i64 y.f0, Value.int IntKind.i64 y.f1] 49); rwa [show (w.alloc (Obj.cells #[Value.int IntKind.i64 x.f0, Value.int IntKind.i64 x.f1] 49)).heap.size = w.heap.size + 1 from by unfold World.alloc; exact Array.size_push _] at h_)⟩
 have HR3 := sk_' hr3
 clear hr3
 go_enter Try.func140, Try.ntmps140
 go_wp2
 refine start_ (n := 13) (S := fun w' => w'.cell? ⟨w.heap.size, 0, none⟩ = some (.int .i64 x.f0) ∧ w'.cell? ⟨w.heap.size, 1, none⟩ = some (.int .i64 x.f1) ∧ w'.cell? ⟨w.heap.size + 1, 0, none⟩ = some (.int .i64 y.f0) ∧ w'.cell? ⟨w.heap.size + 1, 1, none⟩ = some (.int .i64 y.f1)) (ds := []) #[false, false, false, false, false, false, false, false, false, false, false, false, false] (by kernel_rfl) rfl rfl ⟨(kc_' BK1.out 0).trans rfl, (kc_' BK1.out 1).trans rfl, (kc_' BK2.out 0).trans rfl, (kc_' BK2.out 1).trans rfl⟩ (fun hHeld => ?_)
 generalize ((w.alloc (Obj.cells #[Value.int IntKind.i64 x.f0, Value.int IntKind.i64 x.f1] 49)).alloc (Obj.cells #[Value.int IntKind.i64 y.f0, Value.int IntKind.i64 y.f1] 49)).drew = w9 at HG BK1 BK2 hHeld ⊢
 refine pure_ (i := 0) (N := some 5) (v := ?_) (a' := ?_) #[true, false, false, false, false, false, false, false, false, false, false, false, false] rfl rfl (by kernel_rfl) (fun _ _ _ h => h) (Or.inl ⟨by rfl, ?_⟩) ?_ ?_
 rotate_left
 ·
  intro w'
  go_simp
  with_reducible rfl
 rotate_left
 ·
  simp only [Act.put, sa_', sz_', sc_', i64_w, i32_w]
  rfl
 refine pure_ (i := 2) (N := some 7) (v := ?_) (a' := ?_) #[true, false, true, false, false, false, false, false, false, false, false, false, false] rfl rfl (by kernel_rfl) (fun _ _ _ h => h) (Or.inl ⟨by rfl, ?_⟩) ?_ ?_
 rotate_left
 ·
  intro w'
  go_simp
  with_reducible rfl
 rotate_left
 ·
  simp only [Act.put, sa_', sz_', sc_', i64_w, i32_w]
  rfl
 refine pure_ (i := 5) (N := some 10) (v := ?_) (a' := ?_) #[true, false, true, false, false, true, false, false, false, false, false, false, false] rfl rfl (by kernel_rfl) (fun _ _ _ h => h) (Or.inl ⟨by rfl, ?_⟩) ?_ ?_
 rotate_left
 ·
  intro w'
  go_simp
  with_reducible rfl
 rotate_left
 ·
  simp only [Act.put, sa_', sz_', sc_', i64_w, i32_w]
  rfl
 refine pure_ (i := 7) (N := some 12) (v := ?_) (a' := ?_) #[true, false, true, false, false, true, false, true, false, false, false, false, false] rfl rfl (by kernel_rfl) (fun _ _ _ h => h) (Or.inl ⟨by rfl, ?_⟩) ?_ ?_
 rotate_left
 ·
  intro w'
  go_simp
  with_reducible rfl
 rotate_left
 ·
  simp only [Act.put, sa_', sz_', sc_', i64_w, i32_w]
  rfl
 refine take_ (i := 1) (N := some 6) (v := ?_) (a' := ?_) #[true, true, true, false, false, true, false, true, false, false, false, false, false] rfl rfl (by kernel_rfl) (fun _ _ _ h => h) (Or.inl ⟨by rfl, ?_⟩) hHeld ?_ ?_
 rotate_left
 ·
  rintro w' ⟨s0, s1, s2, s3⟩
  go_simp
  with_reducible rfl
 rotate_left
 ·
  simp only [Act.put, sa_', sz_', sc_', i64_w, i32_w]
  rfl
 refine take_ (i := 3) (N := some 8) (v := ?_) (a' := ?_) #[true, true, true, true, false, true, false, true, false, false, false, false, false] rfl rfl (by kernel_rfl) (fun _ _ _ h => h) (Or.inl ⟨by rfl, ?_⟩) hHeld ?_ ?_
 rotate_left
 ·
  rintro w' ⟨s0, s1, s2, s3⟩
  go_simp
  with_reducible rfl
 rotate_left
 ·
  simp only [Act.put, sa_', sz_', sc_', i64_w, i32_w]
  rfl
 refine take_ (i := 6) (N := some 11) (v := ?_) (a' := ?_) #[true, true, true, true, false, true, true, true, false, false, false, false, false] rfl rfl (by kernel_rfl) (fun _ _ _ h => h) (Or.inl ⟨by rfl, ?_⟩) hHeld ?_ ?_
 rotate_left
 ·
  rintro w' ⟨s0, s1, s2, s3⟩
  go_simp
  with_reducible rfl
 rotate_left
 ·
  simp only [Act.put, sa_', sz_', sc_', i64_w, i32_w]
  rfl
 refine take_ (i := 8) (N := some 13) (v := ?_) (a' := ?_) #[true, true, true, true, false, true, true, true, true, false, false, false, false] rfl rfl (by kernel_rfl) (fun _ _ _ h => h) (Or.inl ⟨by rfl, ?_⟩) hHeld ?_ ?_
 rotate_left
 ·
  rintro w' ⟨s0, s1, s2, s3⟩
  go_simp
  with_reducible rfl
 rotate_left
 ·
  simp only [Act.put, sa_', sz_', sc_', i64_w, i32_w]
  rfl
 refine one_ (i := 4) (N := some 9) #[true, true, true, true, true, true, true, true, true, false, false, false, false] rfl rfl (by kernel_rfl) (by decide) (fun K hK => ?_)
 refine goes_ Try.func131 (by kernel_rfl) rfl #[.int .i64 x.f0, .int .i64 y.f0] (by rfl) rfl rfl (by (try simp only [xm_', xc_', xn_']); first | done | rfl) ?_
 with_reducible refine (cmp_Compare_int.calls x.f0 y.f0 t1 _ A1.out).mono ?_
 rintro e w' ⟨rfl, ⟨nd1, rfl⟩⟩
 refine ⟨_, rfl, ?_⟩
 refine hK.out _ _ ⟨(kc_' BK1.out 0).trans rfl, (kc_' BK1.out 1).trans rfl, (kc_' BK2.out 0).trans rfl, (kc_' BK2.out 1).trans rfl⟩ (fun hHeld => ?_)
 clear hK K
 refine norm_ (a' := ?_) ?_ ?_
 rotate_left
 ·
  show Act.put _ (some 9) _ = _
  simp only [Act.put, sa_', sz_', sc_', i64_w, i32_w]
  rfl
 refine one_ (i := 9) (N := some 14) #[true, true, true, true, true, true, true, true, true, true, false, false, false] rfl rfl (by kernel_rfl) (by decide) (fun K hK => ?_)
 refine goes_ Try.func131 (by kernel_rfl) rfl #[.int .i64 x.f1, .int .i64 y.f1] (by rfl) rfl rfl (by (try simp only [xm_', xc_', xn_']); first | done | rfl) ?_
 with_reducible refine (cmp_Compare_int.calls x.f1 y.f1 t2 _ A2.out).mono ?_
 rintro e w' ⟨rfl, ⟨nd2, rfl⟩⟩
 refine ⟨_, rfl, ?_⟩
 refine hK.out _ _ ⟨(kc_' BK1.out 0).trans rfl, (kc_' BK1.out 1).trans rfl, (kc_' BK2.out 0).trans rfl, (kc_' BK2.out 1).trans rfl⟩ (fun hHeld => ?_)
 clear hK K
 refine norm_ (a' := ?_) ?_ ?_
 rotate_left
 ·
  show Act.put _ (some 14) _ = _
  simp only [Act.put, sa_', sz_', sc_', i64_w, i32_w]
  rfl
 refine one_ (i := 10) (N := some 15) #[true, true, true, true, true, true, true, true, true, true, true, false, false] rfl rfl (by kernel_rfl) (by decide) (fun K hK => ?_)
 refine event_step (v := .slice (some ⟨((w9.drewN nd1).drewN nd2).heap.size, 0, none⟩) [t1, t2].length 2) (w1 := ((w9.drewN nd1).drewN nd2).alloc (.cells #[.int .i64 t1, .int .i64 t2] 3)) (by rfl) ?hr ?_
 (case hr => first | (go_simp; done) | (go_simp; rfl))
 have hown := World.ownsRow_lit (base := 0) (e := 3) (size := 1) ((w9.drewN nd1).drewN nd2) #[.int .i64 t1, .int .i64 t2] 2 (Nat.zero_le _) (by decide) rfl
 have HO : Aside0 (Kd.R (Kd.int .i64) 3 (((w9.drewN nd1).drewN nd2).alloc (.cells #[.int .i64 t1, .int .i64 t2] 3)) 0 (fun _ => True) (.slice (some ⟨((w9.drewN nd1).drewN nd2).heap.size, 0, none⟩) [t1, t2].length 2) [t1, t2]) := ⟨Kd.R_of_own hown (fun _ _ => trivial)⟩
 have HG2 : Aside0 (GrewW w (((w9.drewN nd1).drewN nd2).alloc (.cells #[.int .i64 t1, .int .i64 t2] 3))) := ⟨((HG.out.drewN nd1).drewN nd2).alloc _⟩
 have n1_ := sk_' (ka_' (kn_' (kn_' BK1.out nd1) nd2) (.cells #[.int .i64 t1, .int .i64 t2] 3))
 have n2_ := sk_' (ka_' (kn_' (kn_' BK2.out nd1) nd2) (.cells #[.int .i64 t1, .int .i64 t2] 3))
 clear BK1 BK2 hown HG
 have BK1 := n1_
 have BK2 := n2_
 clear n1_ n2_
 refine hK.out _ _ ⟨(kc_' BK1.out 0).trans rfl, (kc_' BK1.out 1).trans rfl, (kc_' BK2.out 0).trans rfl, (kc_' BK2.out 1).trans rfl⟩ (fun hHeld => ?_)
 clear hK K
 refine norm_ (a' := ?_) ?_ ?_
 rotate_left
 ·
  show Act.put _ (some 15) _ = _
  simp only [Act.put, sa_', sz_', sc_', i64_w, i32_w]
  rfl
 generalize ((w9.drewN nd1).drewN nd2).alloc (.cells #[.int .i64 t1, .int .i64 t2] 3) = w10 at BK1 BK2 HO HG2 hHeld ⊢
 generalize ((w9.drewN nd1).drewN nd2).heap.size = gs at HO ⊢
 refine one_ (i := 11) (N := some 16) #[true, true, true, true, true, true, true, true, true, true, true, true, false] rfl rfl (by kernel_rfl) (by decide) (fun K hK => ?_)
 refine goes_ Try.func130 (by kernel_rfl) rfl #[.slice (some ⟨gs, 0, none⟩) [t1, t2].length 2] (by rfl) rfl rfl (by (try simp only [xm_', xc_', xn_']); first | done | rfl) ?_
 with_reducible refine (cmp_Or_int.calls 4 _ _ [t1, t2] t3 _ ?side1 ?side2 A3.out).mono ?_
 (case side1 => exact (xr_' HO.out).2.2)
 (case side2 => exact (xr_' HO.out).2.1)
 rintro e w' ⟨rfl, ⟨nd3, rfl⟩⟩
 refine ⟨_, rfl, ?_⟩
 refine hK.out _ _ ⟨(kc_' BK1.out 0).trans rfl, (kc_' BK1.out 1).trans rfl, (kc_' BK2.out 0).trans rfl, (kc_' BK2.out 1).trans rfl⟩ (fun hHeld => ?_)
 clear hK K
 refine norm_ (a' := ?_) ?_ ?_
 rotate_left
 ·
  show Act.put _ (some 16) _ = _
  simp only [Act.put, sa_', sz_', sc_', i64_w, i32_w]
  rfl
 refine pure_ (i := 12) (N := some 4) (v := ?_) (a' := ?_) #[true, true, true, true, true, true, true, true, true, true, true, true, true] rfl rfl (by kernel_rfl) (fun _ _ _ h => h) (Or.inl ⟨by rfl, ?_⟩) ?_ ?_
 rotate_left
 ·
  intro w'
  go_simp
  with_reducible rfl
 rotate_left
 ·
  simp only [Act.put, sa_', sz_', sc_', i64_w, i32_w]
  rfl
 refine done_ (by kernel_rfl) ?_
 try go_wp2
 go_ret
 exact ⟨by rw [← HR3.out]; first | rfl | (simp [errW_none, errW_some] <;> rfl), HG2.out.drewN nd3⟩
section
open Go.Sort (putRow putCells grow flatK get_flatK)
open Go.Proofs (ltOf)
def cells2 (y : S49) : List Value := [.int .i64 y.f0, .int .i64 y.f1]
theorem flat2_len : ∀ x : List S49, (x.flatMap cells2).length = x.length * 2
 | [] => rfl
 | y :: x => by rw [List.flatMap_cons, List.length_append, flat2_len x, List.length_cons, Nat.succ_mul, Nat.add_comm]; rfl
theorem flat2_get : ∀ (x : List S49) (q : Nat), (x.flatMap cells2)[q]? = (x[q / 2]?).bind (fun y => (cells2 y)[q % 2]?)
 | [], q => by simp
 | y :: x, q => by
  rw [List.flatMap_cons, List.getElem?_append]
  by_cases h : q < 2
  ·
   rw [if_pos (by exact h), Nat.div_eq_of_lt h, Nat.mod_eq_of_lt h]
   rfl
  have e1 : q / 2 = (q - 2) / 2 + 1 := by omega
  have e2 : q % 2 = (q - 2) % 2 := by omega
  rw [if_neg (by exact h), e1, e2, List.getElem?_cons_succ]
  exact flat2_get x (q - 2)
theorem flat2_drop : ∀ (j : Nat) (x : List S49), (x.drop j).flatMap cells2 = (x.flatMap cells2).drop (j * 2)
 | 0, x => by simp
 | j + 1, [] => by simp
 | j + 1, y :: x => by
  rw [List.drop_succ_cons, flat2_drop j x, List.flatMap_cons, show (j + 1) * 2 = 2 + j * 2 by omega]
  rw [← List.drop_drop]
  rfl
theorem R_all2 {base go cap n : Nat} {W : World} {x : List S49} (h : Kd.R k49 49 W base (fun _ => True) (.slice (some ⟨go, 0, none⟩) n cap) x) (q : Nat) (u : Value) (hq : (x.flatMap cells2)[q]? = some u) : W.cell? ⟨go, q, none⟩ = some u := by
 have hn := (xr_' h).1
 have hlt : q < x.length * 2 := by
  rw [← flat2_len x]
  exact (List.getElem?_eq_some_iff.1 hq).1
 obtain ⟨ce, hcl, hM, hcc, hfr⟩ := Kd.R_elem h (⟨0, 0⟩ : S49) ((q / 2 : Nat) : Int) (by omega) (by omega)
 obtain rfl := k49_openM hM
 rw [Int.toNat_natCast] at hcc
 rw [flat2_get, List.getElem?_eq_getElem (show q / 2 < x.length by omega)] at hq
 have e : x.getD (q / 2) (⟨0, 0⟩ : S49) = x[q / 2] := by rw [List.getD_eq_getElem?_getD, List.getElem?_eq_getElem (show q / 2 < x.length by omega)]; rfl
 rw [e] at hcc
 have h1 := hcc (q % 2) u hq
 have e2 : q / 2 * k49.sz + q % 2 = q := by show q / 2 * 2 + q % 2 = q; omega
 rwa [e2] at h1
theorem R_mk2 {base go cap : Nat} {W : World} {x : List S49} (cur : Array Value) (hh : W.heap[go]? = some (.cells cur 49 (0, 0))) (hb : base ≤ go) (hc : x.length ≤ cap) (hm : cap ≤ maxLen) (hs : cur.size = cap * 2) (ht : cur.toList.take (x.length * 2) = x.flatMap cells2) :
  Kd.R k49 49 W base (fun _ => True) (.slice (some ⟨go, 0, none⟩) x.length cap) x := by
 refine ⟨fun _ _ => trivial, x.flatMap cells2, ⟨flat2_len x, .inr ⟨go, cap, cur, rfl, hb, hh, hc, hm, hs, ht⟩⟩, flat2_len x, fun j p hj => ?_⟩
 have e : ((x.flatMap cells2).drop (j * k49.sz)).take k49.sz = cells2 p := by
  show ((x.flatMap cells2).drop (j * 2)).take 2 = cells2 p
  rw [← flat2_drop]
  obtain ⟨hjl, rfl⟩ := List.getElem?_eq_some_iff.1 hj
  rw [List.drop_eq_getElem_cons hjl, List.flatMap_cons]
  rfl
 rw [e]
 exact k49_mkM W base _ p
instance : Inhabited S49 := ⟨⟨0, 0⟩⟩
theorem flatK2 (x : List S49) : flatK cells2 2 x.toArray = (x.flatMap cells2).toArray := by
 apply Go.Sort.ext_get!
 ·
  rw [Go.Sort.size_flatK]; simp only [List.size_toArray, flat2_len]
 intro t ht
 have ht' : t < x.length * 2 := by simpa using ht
 rw [get_flatK _ _ _ _ (by simpa using ht')]
 have h1 : t / 2 < x.length := by omega
 have h2 := flat2_get x t
 rw [List.getElem?_eq_getElem h1] at h2
 have h3 : (x.flatMap cells2).toArray[t]! = ((x.flatMap cells2)[t]?).getD default := by simp [getElem!_def]; cases (x.flatMap cells2)[t]? <;> rfl
 rw [h3, h2]
 have h4 : x.toArray[t / 2]! = x[t / 2] := by simp [getElem!_pos, h1]
 rw [h4]
 simp [getElem!_def]
 cases (cells2 x[t / 2])[t % 2]? <;> rfl
theorem cmI_lt (a b : Int) : cmI a b < 0 ↔ a < b := by unfold cmI; repeat' split; all_goals omega
theorem cmI_zero (a b : Int) : cmI a b = 0 ↔ a = b := by unfold cmI; repeat' split; all_goals omega
theorem cfP_lt (x y : S49) : ltOf cfP x y = decide (x.f0 < y.f0 ∨ (x.f0 = y.f0 ∧ x.f1 < y.f1)) := by
 unfold ltOf cfP
 have h1 := cmI_lt x.f0 y.f0
 have h2 := cmI_lt x.f1 y.f1
 have h3 := cmI_zero x.f0 y.f0
 by_cases h : cmI x.f0 y.f0 = 0
 ·
  rw [if_pos h]
  apply decide_eq_decide.2
  constructor
  ·
   intro h'; exact Or.inr ⟨h3.1 h, h2.1 h'⟩
  rintro (h' | h')
  ·
   have := h3.1 h; omega
  exact h2.2 h'.2
 rw [if_neg h]
 apply decide_eq_decide.2
 constructor
 ·
  intro h'; exact Or.inl (h1.1 h')
 rintro (h' | h')
 ·
  exact h1.2 h'
 exact absurd (h3.2 h'.1) h
theorem swoP : Go.Sort.SWO (ltOf cfP) where
 irrefl x := by rw [cfP_lt]; simp
 trans x y z h1 h2 := by rw [cfP_lt] at *; simp at *; omega
 ntrans x y z h1 h2 := by rw [cfP_lt] at *; simp at *; omega
def srtP (xs : List S49) : List S49 := xs.mergeSort fun x y => !(ltOf cfP) y x
theorem so_sortf (base : Nat) (v : Value) (xs : List S49) (w : World) (HR : Kd.R k49 49 w base (fun _ => True) v xs) (hsz : xs.length < 4611686018427387904) :
  Calls Try.prog 139 #[v, .func (.func 140) #[] #[]] w fun e w' => e = .returned (.tuple #[]) ∧ Kd.R k49 49 w' base (fun _ => True) v (srtP xs) ∧ Below base w w' := by
 have HR' := HR
 obtain ⟨hok, inner, ho, hr⟩ := HR
 rcases ho.2 with ⟨rfl, hn⟩ | ⟨g, cap, cur, rfl, hb, hh, hnc, hcm, hcs, ht⟩
 ·
  obtain rfl : xs = [] := List.eq_nil_of_length_eq_zero hn
  have hcon := AnyF.slices_SortFunc_none Try.laysSf none 0 (.func (.func 140) #[] #[]) w
  change Calls Try.prog 139 _ _ _ at hcon
  exact hcon.mono fun e w' ⟨he, hw⟩ => ⟨he, by rw [hw, show srtP [] = [] by simp [srtP]]; exact HR', by rw [hw]; exact Below.refl _ _⟩
 have hlt : g < w.heap.size := (Array.getElem?_eq_some_iff.1 hh).1
 have hall := R_all2 HR'
 have eg : ∀ args w, (callFunc 140 args).run Try.prog w = .ok (.enter 140 args) w := enters_of Try.func140 (by kernel_rfl) rfl
 have hH : Go.Sort.HoldsK cells2 2 w g 0 xs.toArray := by
  unfold Go.Sort.HoldsK
  rw [flatK2]
  generalize xs.flatMap cells2 = F at hall
  intro j hj
  have hj' : j < F.length := by simpa using hj
  refine ⟨?_, by simp [World.frozen?, hh]⟩
  rw [Nat.zero_add, hall j _ (List.getElem?_eq_getElem hj')]
  simp [hj']
 have hcon := AnyQ.slices_SortFunc_total Try.laysSf 2 Try.isAgg49 Try.sizeOf49 cells2 (fun _ => rfl) (fun x u hu => by simp [cells2] at hu; rcases hu with rfl | rfl <;> rfl) cfP swoP 140 #[] g 0 cap xs.toArray w eg
  (fun m os dk hs x y => so_cmp x y _) hH hlt (by simpa using hsz) (fun x y h1 h2 => by rw [cfP_lt] at h1 h2; simp at h1 h2; cases x; cases y; simp at *; omega)
 change Calls Try.prog 139 _ _ _ at hcon
 refine hcon.mono fun e w' hw => ?_
 obtain ⟨he, n, os, rfl⟩ := hw
 have hl : (srtP xs).length = xs.length := List.length_mergeSort _
 have e1 : (xs.toArray.toList.mergeSort fun x y => !(ltOf cfP) y x) = srtP xs := rfl
 rw [e1]
 unfold Go.Proofs.sortWorldK Go.Sort.putRowK
 rw [flatK2]
 have hsz2 : cur.size = cap * 2 := hcs
 have hpc : (putCells id 0 ((srtP xs).flatMap cells2).toArray cur).toList.take ((srtP xs).length * 2) = (srtP xs).flatMap cells2 := by
  have hFl := flat2_len (srtP xs)
  generalize (srtP xs).flatMap cells2 = F at hFl
  rw [← hFl]
  apply List.ext_getElem?
  intro j
  by_cases hj : j < F.length
  ·
   rw [List.getElem?_take_of_lt hj, Array.getElem?_toList]
   simp [putCells, hj, show j < cur.size by omega]
  rw [List.getElem?_take_eq_none (by omega), List.getElem?_eq_none (by omega)]
 refine ⟨he, ?_, ?_⟩
 ·
  have h2 := R_mk2 (base := base) (cap := cap) (x := srtP xs) (W := grow (putRow id (Go.Sort.ahead w n) g 0 ((srtP xs).flatMap cells2).toArray) os) (putCells id 0 ((srtP xs).flatMap cells2).toArray cur) (by
   rw [Go.Sort.heap_grow_old _ _ (by simpa using hlt)]
   simp [putRow, Go.Sort.mapBlock, Go.Sort.ahead, Array.getElem?_modify, hh, Go.Sort.onCells]) hb (by omega) hcm (by simpa [putCells] using hsz2) hpc
  rw [hl] at h2
  exact h2
 refine ⟨rfl, rfl, rfl, by simp, fun k hk => ?_⟩
 rw [Go.Sort.heap_grow_old _ _ (by simp; omega)]
 have : g ≠ k := by omega
 simp [putRow, Go.Sort.mapBlock, Go.Sort.ahead, Array.getElem?_modify, this]
set_option maxHeartbeats 1000000 in
theorem so_played (base : Nat) (v : Value) (xs : List S49) (w : World) (HR : Kd.R k49 49 w base (fun _ => True) v xs) (hsz : xs.length < 4611686018427387904) :
  Calls Try.prog 96 #[v] w fun e w' => e = .returned (.tuple #[]) ∧ Kd.R k49 49 w' base (fun _ => True) v (srtP xs) ∧ Below base w w' := by
 have hcon := so_sortf base v xs w HR hsz
 obtain ⟨A, c, rfl⟩ := Kd.R_slice HR
 have HC := sk_' hcon
 clear hcon HR
 go_enter Try.func96, Try.ntmps96
 go_wp2_with (go_at_call 139; refine HC.out.mono ?_; rintro e w' ⟨rfl, ho, hb⟩; have HO := sk_' ho; have HB := sk_' hb; clear ho hb)
 go_end0
 exact ⟨rfl, HO.out, HB.out⟩
end
def impl_PlayScore.l0 : Nat → List (S151) → List (S49) → List (S26) → Int → Int → Option ((List (S49)) × Bool)
 | 0, _, _, _, _, _ => none
 | k + 1, x1, x6, x16, x17, x18 => if x18 < x17 then (if 0 ≤ x18 then (if x18 < (x16.length : Int) then ((impl_TimeOf.f k x1 ((rd_T26 x16 x18).f0)).bind fun bt663 => (if bt663.2.2 = true then ((impl_FloorRatio.f k bt663.1 bt663.2.1).bind fun t667 => (if x6.length < 8796093022208 then (impl_PlayScore.l0 k x1 (x6 ++ [(⟨t667, (rd_T26 x16 x18).f2⟩ : S49)]) x16 x17 (wrap64 (x18 + 1))) else (none))) else (some ((([] : List (S49))), false)))) else (none)) else (none)) else (if x6.length < 4611686018427387904 then (some (srtP x6, true)) else (none))
def impl_PlayScore.f (k : Nat) (l0 : List (S26)) (l1 : List (S151)) : Option ((List (S49)) × Bool) := (some (([] : List (S49)) : List (S49))).bind fun y657 => ((impl_IsScore.f k l0).bind fun t660 => (if t660 = true then (impl_PlayScore.l0 k l1 y657 l0 (l0.length : Int) 0) else (some (y657, false))))
def impl_PlayScore.T10 : Bool × List (List Nat × List Nat) := (true, [([], []), ([], []), ([1], [1]), ([], []), ([3], [3]), ([2, 4], [2, 4]), ([5], [5]), ([0, 6, 2], [0, 6]), ([7, 7, 0, 1, 2, 3, 4, 5, 6, 7], [0, 7])])
def impl_PlayScore.B10 : List Nat := [0, 0, 2, 0, 8, 30, 62, 127, 255]
theorem impl_PlayScore.tab10 : rtab .any (opsOf Try.f23 10) = impl_PlayScore.T10 := by kernel_rfl
theorem impl_PlayScore.bits10 : waitsOk impl_PlayScore.T10.2 impl_PlayScore.B10 = true := by kernel_rfl
set_option maxHeartbeats 8000000 in
set_option maxRecDepth 100000 in
theorem impl_PlayScore.calls (k : Nat) (A0 : Option Addr) (c0 : Nat) (l0 : List (S26)) (A1 : Option Addr) (c1 : Nat) (l1 : List (S151)) (r1 : List (S49)) (r2 : Bool) (w : World) (hr0 : Kd.C k26 w A0 l0.length l0) (hc0 : l0.length ≤ c0) (hr1 : Kd.C k151 w A1 l1.length l1) (hc1 : l1.length ≤ c1) (h : impl_PlayScore.f k l0 l1 = some (r1, r2)) :
  Calls Try.prog 23 #[.slice A0 l0.length c0, .slice A1 l1.length c1] w fun e w' => ∃ v0_ : Value, e = .returned (.tuple #[v0_, .bool r2]) ∧ Kd.R k49 49 w' w.heap.size (fun _ => True) v0_ r1 ∧ Below w.heap.size w w' := by
 have hu26 := Try.underlying26
 have hu95 := Try.underlying95
 have hu49 := Try.underlying49
 have HR0 := sk_' hr0
 have HC0 := sk_' hc0
 clear hr0 hc0
 have HR1 := sk_' hr1
 have HC1 := sk_' hc1
 clear hr1 hc1
 have HB := sk_' (Below.refl w.heap.size w)
 have H : ((some (([] : List (S49)) : List (S49))).bind fun y657 => ((impl_IsScore.f k l0).bind fun t660 => (if t660 = true then (impl_PlayScore.l0 k l1 y657 l0 (l0.length : Int) 0) else (some (y657, false))))) = some (r1, r2) := h
 clear h
 obtain ⟨y657, hy657⟩ : ∃ y_ : List (S49), y_ = (([] : List (S49))) := ⟨_, rfl⟩
 replace H : ((impl_IsScore.f k l0).bind fun t660 => (if t660 = true then (impl_PlayScore.l0 k l1 y657 l0 (l0.length : Int) 0) else (some (y657, false)))) = some (r1, r2) := by first | (rw [hy657]; with_reducible exact H) | (have H2_ := (Option.bind_some _ _).symm.trans H; rw [hy657]; with_reducible exact H2_) | (have H2_ := (Option.bind_some _ _).symm.trans H; with_reducible exact H2_) | with_reducible exact H | (rw [hy657]; exact H) | exact H
 have Ny657 := sk_' hy657
 clear hy657
 replace H := bs_' H
 obtain ⟨t660, A30, H⟩ := H
 try dsimp only at H
 have A3 := sk_' A30
 clear A30
 by_cases c4 : t660 = true
 ·
  subst c4
  rw [if_pos rfl] at H
  have H' := sk_' H
  clear H
  go_enter Try.func23, Try.ntmps23
  go_wp2_with (first | ((with_reducible refine gate_dst (N := 11) rfl ?_); refine Kd.R_lit k49 _ 49 ?hg (N := 11) ?hd (xs := ([] : List (S49))) (inner := []) (ok := fun _ => True) (okp := fun _ => True) ?hr ?hp (fun _ hk => hk) trivial (Below.refl _ _) (Nat.le_refl _) (by simp) ?_; (case hd => rfl); (case hg => rfl); (case hr => first | (go_simp; done) | (go_simp; rfl)); (case hp => exact (Reps.none _ _)); intro v658 w5 ho6 hb hg_ hnew_; clear hg_ hnew_; (first | rw [← Ny657.out] at ho6 | (simp only [Int.reduceToNat] at ho6; rw [← Ny657.out] at ho6)); have n0_ := sk_' (Kd.R_lower ho6 (ps_' (by repeat (first | (with_reducible first | exact HB.out | apply pa_' | apply pn_' | apply pd_') | exact HB.out)))); have n1_ := sk_' (pp_' (by repeat (first | (with_reducible first | exact HB.out | apply pa_' | apply pn_' | apply pd_') | exact HB.out)) hb); clear HB; have HO659 := n0_; have HB := n1_; clear n0_ n1_; clear hb ho6) | ((with_reducible refine xj_' (f := 14) rfl ?_); refine goesL_ (some 13) rfl rfl Try.func14 (by kernel_rfl) rfl #[.slice A0 l0.length c0] rfl (by (try simp only [xm_', xc_', xn_']); first | done | rfl | (simp only [xd_', xt_']; rfl)) ?_; (with_reducible refine (impl_IsScore.calls k _ _ l0 true _ ?side1 ?side2 A3.out).mono ?_); (case side1 => repeat (first | exact (Kd.C_below HR0.out HB.out) | (with_reducible refine xg_' ?_ _) | (with_reducible refine xe_' ?_ _) | (with_reducible refine xf_' ?_))); (case side2 => exact HC0.out); rintro e w7 ⟨rfl, hb⟩; refine ⟨_, rfl, ?_⟩; have n0_ := sk_' (xb_' (by (with_reducible repeat (first | apply ra_' | apply rn_' | apply rd1_')); exact HO659.out) hb); have n1_ := sk_' (pp_' (by repeat (first | (with_reducible first | exact HB.out | apply pa_' | apply pn_' | apply pd_') | exact HB.out)) hb); clear HO659; clear HB; have HO659 := n0_; have HB := n1_; clear n0_ n1_; (try clear hb); (try clear hb2); (try clear hk); (try clear hi)))
  go_loopg [6, 18] k (fun kq v6 v18 w' => ∃ (x6_1 : List (S49)) (x18_1 : Int), v18 = .int .i64 x18_1 ∧ Aside0 (impl_PlayScore.l0 kq l1 x6_1 l0 (l0.length : Int) x18_1 = some (r1, r2)) ∧ Aside0 (kq ≤ k) ∧ Aside0 (Kd.R k49 49 w' w.heap.size (fun _ => True) v6 x6_1) ∧ Aside0 (Below w.heap.size w w'))
  case atStart => exact ⟨(y657), (0), (by first | rfl | (simp; done) | (simp [*]; done)), H', ⟨Nat.le_refl _⟩, ⟨by (with_reducible repeat (first | apply ra_' | apply rn_' | apply rd1_')); exact HO659.out⟩, ⟨by repeat (first | (with_reducible first | exact HB.out | apply pa_' | apply pn_' | apply pd_') | exact HB.out)⟩⟩
  case round =>
   clear H'
   try clear c1
   try clear c2
   try clear p2
   try clear c4
   obtain ⟨x6_1, x18_1, rfl, HA, HK1, HO_6, HB⟩ := hrel
   cases gk with
   | zero => exact absurd HA.out (by simp [impl_PlayScore.l0])
   | succ k1 =>
    have H := HA.out
    clear HA
    simp only [impl_PlayScore.l0] at H
    by_cases c8 : x18_1 < (l0.length : Int)
    ·
     rw [if_pos c8] at H
     have c8b0 : decide (x18_1 < (l0.length : Int)) = true := decide_eq_true c8
     clear c8
     by_cases c9 : 0 ≤ x18_1
     ·
      rw [if_pos c9] at H
      have c9b0 : decide (0 ≤ x18_1) = true := decide_eq_true c9
      clear c9
      by_cases c10 : x18_1 < (l0.length : Int)
      ·
       rw [if_pos c10] at H
       have c10b0 : decide (x18_1 < (l0.length : Int)) = true := decide_eq_true c10
       clear c10
       replace H := bs_' H
       obtain ⟨⟨t663, t664, t665⟩, A110, H⟩ := H
       try dsimp only at H
       have A11 := sk_' A110
       clear A110
       by_cases c12 : t665 = true
       ·
        subst c12
        rw [if_pos rfl] at H
        replace H := bs_' H
        obtain ⟨t667, A130, H⟩ := H
        try dsimp only at H
        have A13 := sk_' A130
        clear A130
        by_cases c14 : x6_1.length < 8796093022208
        ·
         rw [if_pos c14] at H
         have LMc14 := sk_' c14
         clear c14
         obtain ⟨y668, hy668⟩ : ∃ y_ : List (S49), y_ = (x6_1 ++ [(⟨t667, (rd_T26 l0 x18_1).f2⟩ : S49)]) := ⟨_, rfl⟩
         replace H : (impl_PlayScore.l0 k1 l1 y668 l0 (l0.length : Int) (wrap64 (x18_1 + 1))) = some (r1, r2) := by first | (rw [hy668]; with_reducible exact H) | (have H2_ := (Option.bind_some _ _).symm.trans H; rw [hy668]; with_reducible exact H2_) | (have H2_ := (Option.bind_some _ _).symm.trans H; with_reducible exact H2_) | with_reducible exact H | (rw [hy668]; exact H) | exact H
         have Ny668 := sk_' hy668
         clear hy668
         have H' := sk_' H
         clear H
         have p661 : 0 ≤ (x18_1 : Int) := od_' (by first | (with_reducible assumption) | assumption)
         have q661 : x18_1 < (l0.length : Int) := od_' (by first | (with_reducible assumption) | assumption)
         obtain ⟨ad661, e661, hx661_0, hx661_1, hx661_2, hx661_3⟩ := at_T26 HR0.out x18_1 p661 q661
         cases e661
         replace hx661_0 := (HB.out.cell (bq_' w _ hx661_0)).trans hx661_0
         replace hx661_1 := (HB.out.cell (bq_' w _ hx661_1)).trans hx661_1
         replace hx661_2 := (HB.out.cell (bq_' w _ hx661_2)).trans hx661_2
         replace hx661_3 := (HB.out.cell (bq_' w _ hx661_3)).trans hx661_3
         replace p661 := eq_true p661
         replace q661 := eq_true q661
         try go_wp2_with (first | ((with_reducible refine gate_dst (N := 8) rfl ?_); refine box_event ?hg (N := 8) ?hd (cs := #[.int .i64 0, .int .i64 0, .int .i64 0, .int .i64 0]) (t := 26) ?hr ?_; (case hd => rfl); (case hg => rfl); (case hr => first | (go_simp; done) | (go_simp; rfl)); intro gb662 hg w15 hbox hb; have n0_ := sk_' (xb_' (by (with_reducible repeat (first | apply ra_' | apply rn_' | apply rd1_')); exact HO_6.out) hb); have n1_ := sk_' (pp_' (by repeat (first | (with_reducible first | exact HB.out | apply pa_' | apply pn_' | apply pd_') | exact HB.out)) hb); have n2_ := sk_' (hbox); have n3_ := sk_' ((by rw [hg]; exact (ps_' (by repeat (first | (with_reducible first | exact HB.out | apply pa_' | apply pn_' | apply pd_') | exact HB.out))) : w.heap.size ≤ gb662)); have n4_ := sk_' ((by rw [hg]; exact (ps_' (by repeat (first | (with_reducible first | exact HB.out | apply pa_' | apply pn_' | apply pd_') | exact HB.out))) : w.heap.size ≤ gb662)); clear HO_6; clear HB; have HO_6 := n0_; have HB := n1_; have BK662 := n2_; have GW662 := n3_; have GE662 := n4_; clear n0_ n1_ n2_ n3_ n4_; clear hb hbox hg; have hcz16_0 : w15.cell? ⟨gb662, 0, none⟩ = some (.int .i64 0) := (kc_' BK662.out 0).trans rfl; have hcz16_1 : w15.cell? ⟨gb662, 1, none⟩ = some (.int .i64 0) := (kc_' BK662.out 1).trans rfl; have hcz16_2 : w15.cell? ⟨gb662, 2, none⟩ = some (.int .i64 0) := (kc_' BK662.out 2).trans rfl; have hcz16_3 : w15.cell? ⟨gb662, 3, none⟩ = some (.int .i64 0) := (kc_' BK662.out 3).trans rfl; have hfz16_0 := kf_' BK662.out 0; have hfz16_1 := kf_' BK662.out 1; have hfz16_2 := kf_' BK662.out 2; have hfz16_3 := kf_' BK662.out 3) | ((with_reducible refine xj_' (f := 57) rfl ?_); refine goesL_ (some 26) rfl rfl Try.func57 (by kernel_rfl) rfl #[.slice A1 l1.length c1, .int .i64 ((rd_T26 l0 x18_1).f0)] rfl (by (try simp only [xm_', xc_', xn_']); first | done | rfl | (simp only [xd_', xt_']; rfl)) ?_; (with_reducible refine (impl_TimeOf.calls k1 _ _ l1 ((rd_T26 l0 x18_1).f0) t663 t664 true _ ?side1 ?side2 A11.out).mono ?_); (case side1 => exact Kd.C_below HR1.out (by repeat (first | (with_reducible first | exact HB.out | apply pa_' | apply pn_' | apply pd_' | refine pt_' ?_ GE662.out) | exact HB.out))); (case side2 => exact HC1.out); rintro e w17 ⟨rfl, hb⟩; refine ⟨_, rfl, ?_⟩; have n0_ := sk_' (xb_' (by (with_reducible repeat (first | apply ra_' | apply rn_' | apply rd1_')); exact (xi_' (Kd.R_far (p := ⟨gb662, 3, none⟩) (Kd.R_far (p := ⟨gb662, 2, none⟩) (Kd.R_far (p := ⟨gb662, 1, none⟩) (Kd.R_far (p := ⟨gb662, 0, none⟩) (Kd.R_types HO_6.out BK662.out (by decide)) (fun _ hk => hk.2) (.int .i64 ((rd_T26 l0 x18_1).f0))) (fun _ hk => hk.2) (.int .i64 ((rd_T26 l0 x18_1).f1))) (fun _ hk => hk.2) (.int .i64 ((rd_T26 l0 x18_1).f2))) (fun _ hk => hk.2) (.int .i64 ((rd_T26 l0 x18_1).f3))) (fun _ h_ => h_.1))) hb); have n1_ := sk_' (blk_below (g := gb662) (o := .cells #[.int .i64 ((rd_T26 l0 x18_1).f0), .int .i64 ((rd_T26 l0 x18_1).f1), .int .i64 ((rd_T26 l0 x18_1).f2), .int .i64 ((rd_T26 l0 x18_1).f3)] 26 (0, 0)) (by (with_reducible repeat (first | refine kn_' ?_ _ | refine kd_' ?_ | refine ka_' ?_ _)); refine blk_put (cs := #[.int .i64 ((rd_T26 l0 x18_1).f0), .int .i64 ((rd_T26 l0 x18_1).f1), .int .i64 ((rd_T26 l0 x18_1).f2), .int .i64 0]) ?_ 3 _ rfl; (with_reducible repeat (first | refine kn_' ?_ _ | refine kd_' ?_ | refine ka_' ?_ _)); refine blk_put (cs := #[.int .i64 ((rd_T26 l0 x18_1).f0), .int .i64 ((rd_T26 l0 x18_1).f1), .int .i64 0, .int .i64 0]) ?_ 2 _ rfl; (with_reducible repeat (first | refine kn_' ?_ _ | refine kd_' ?_ | refine ka_' ?_ _)); refine blk_put (cs := #[.int .i64 ((rd_T26 l0 x18_1).f0), .int .i64 0, .int .i64 0, .int .i64 0]) ?_ 1 _ rfl; (with_reducible repeat (first | refine kn_' ?_ _ | refine kd_' ?_ | refine ka_' ?_ _)); refine blk_put (cs := #[.int .i64 0, .int .i64 0, .int .i64 0, .int .i64 0]) ?_ 0 _ rfl; (with_reducible repeat (first | refine kn_' ?_ _ | refine kd_' ?_ | refine ka_' ?_ _)); exact BK662.out) hb); have n2_ := sk_' (pp_' (by repeat (first | (with_reducible first | exact HB.out | apply pa_' | apply pn_' | apply pd_' | refine pt_' ?_ GE662.out) | exact HB.out)) hb); clear HO_6; clear BK662; clear HB; have HO_6 := n0_; have BK662 := n1_; have HB := n2_; clear n0_ n1_ n2_; (try clear hb); (try clear hb2); (try clear hk); (try clear hi)) | ((with_reducible refine gate_dst (N := 9) rfl ?_); refine box_event ?hg (N := 9) ?hd (cs := #[.int .i64 0, .int .i64 0]) (t := 95) ?hr ?_; (case hd => rfl); (case hg => rfl); (case hr => first | (go_simp; done) | (go_simp; rfl)); intro gb666 hg w18 hbox hb; have n0_ := sk_' (xb_' (by (with_reducible repeat (first | apply ra_' | apply rn_' | apply rd1_')); exact HO_6.out) hb); have n1_ := sk_' (blk_below (g := gb662) (o := .cells #[.int .i64 ((rd_T26 l0 x18_1).f0), .int .i64 ((rd_T26 l0 x18_1).f1), .int .i64 ((rd_T26 l0 x18_1).f2), .int .i64 ((rd_T26 l0 x18_1).f3)] 26 (0, 0)) (by (with_reducible repeat (first | refine kn_' ?_ _ | refine kd_' ?_ | refine ka_' ?_ _)); exact BK662.out) hb); have n2_ := sk_' (pp_' (by repeat (first | (with_reducible first | exact HB.out | apply pa_' | apply pn_' | apply pd_' | refine pt_' ?_ GE662.out) | exact HB.out)) hb); have n3_ := sk_' (hbox); have n4_ := sk_' ((by rw [hg]; exact (ps_' (by repeat (first | (with_reducible first | exact HB.out | apply pa_' | apply pn_' | apply pd_' | refine pt_' ?_ GE662.out) | exact HB.out))) : w.heap.size ≤ gb666)); have n5_ := sk_' ((by rw [hg]; exact (ps_' (by repeat (first | (with_reducible first | exact HB.out | apply pa_' | apply pn_' | apply pd_' | refine pt_' ?_ GE662.out) | exact HB.out))) : w.heap.size ≤ gb666)); have n6_ := sk_' ((by rw [hg]; exact Nat.ne_of_lt (blk_lt (g := gb662) (o := .cells #[.int .i64 ((rd_T26 l0 x18_1).f0), .int .i64 ((rd_T26 l0 x18_1).f1), .int .i64 ((rd_T26 l0 x18_1).f2), .int .i64 ((rd_T26 l0 x18_1).f3)] 26 (0, 0)) (by (with_reducible repeat (first | refine kn_' ?_ _ | refine kd_' ?_ | refine ka_' ?_ _)); exact BK662.out)) : gb662 ≠ gb666)); have n7_ := sk_' ((by rw [hg]; exact Nat.ne_of_gt (blk_lt (g := gb662) (o := .cells #[.int .i64 ((rd_T26 l0 x18_1).f0), .int .i64 ((rd_T26 l0 x18_1).f1), .int .i64 ((rd_T26 l0 x18_1).f2), .int .i64 ((rd_T26 l0 x18_1).f3)] 26 (0, 0)) (by (with_reducible repeat (first | refine kn_' ?_ _ | refine kd_' ?_ | refine ka_' ?_ _)); exact BK662.out)) : gb666 ≠ gb662)); clear HO_6; clear BK662; clear HB; have HO_6 := n0_; have BK662 := n1_; have HB := n2_; have BK666 := n3_; have GW666 := n4_; have GE666 := n5_; have NB662_666 := n6_; have NB666_662 := n7_; clear n0_ n1_ n2_ n3_ n4_ n5_ n6_ n7_; clear hb hbox hg; have hnb19 := NB666_662.out; have hnc19 := NB662_666.out; have hcz20_0 : w18.cell? ⟨gb666, 0, none⟩ = some (.int .i64 0) := (kc_' BK666.out 0).trans rfl; have hcz20_1 : w18.cell? ⟨gb666, 1, none⟩ = some (.int .i64 0) := (kc_' BK666.out 1).trans rfl; have hfz20_0 := kf_' BK666.out 0; have hfz20_1 := kf_' BK666.out 1))
         have n0_ : Aside0 (Kd.R k49 49 ((w18.setCell ⟨gb666, 0, none⟩ (.int .i64 t663)).setCell ⟨gb666, 1, none⟩ (.int .i64 t664)) w.heap.size (fun _ => True) u6 x6_1) := ⟨by (with_reducible repeat (first | apply ra_' | apply rn_' | apply rd1_')); exact xi_' (Kd.R_far (p := ⟨gb666, 1, none⟩) (Kd.R_far (p := ⟨gb666, 0, none⟩) (Kd.R_types HO_6.out BK666.out (by decide)) (fun _ hk => hk.2) (.int .i64 t663)) (fun _ hk => hk.2) (.int .i64 t664)) (fun _ hk => trivial)⟩
         have n1_ : Aside0 (((w18.setCell ⟨gb666, 0, none⟩ (.int .i64 t663)).setCell ⟨gb666, 1, none⟩ (.int .i64 t664)).heap[gb662]? = some (.cells #[.int .i64 ((rd_T26 l0 x18_1).f0), .int .i64 ((rd_T26 l0 x18_1).f1), .int .i64 ((rd_T26 l0 x18_1).f2), .int .i64 ((rd_T26 l0 x18_1).f3)] 26 (0, 0))) := ⟨by (with_reducible repeat (first | refine kn_' ?_ _ | refine kd_' ?_ | refine ka_' ?_ _)); refine blk_far ?_ NB662_666.out _; (with_reducible repeat (first | refine kn_' ?_ _ | refine kd_' ?_ | refine ka_' ?_ _)); refine blk_far ?_ NB662_666.out _; (with_reducible repeat (first | refine kn_' ?_ _ | refine kd_' ?_ | refine ka_' ?_ _)); exact BK662.out⟩
         have n2_ : Aside0 (((w18.setCell ⟨gb666, 0, none⟩ (.int .i64 t663)).setCell ⟨gb666, 1, none⟩ (.int .i64 t664)).heap[gb666]? = some (.cells #[.int .i64 t663, .int .i64 t664] 95 (0, 0))) := ⟨by (with_reducible repeat (first | refine kn_' ?_ _ | refine kd_' ?_ | refine ka_' ?_ _)); refine blk_put (cs := #[.int .i64 t663, .int .i64 0]) ?_ 1 _ rfl; (with_reducible repeat (first | refine kn_' ?_ _ | refine kd_' ?_ | refine ka_' ?_ _)); refine blk_put (cs := #[.int .i64 0, .int .i64 0]) ?_ 0 _ rfl; (with_reducible repeat (first | refine kn_' ?_ _ | refine kd_' ?_ | refine ka_' ?_ _)); exact BK666.out⟩
         have n3_ : Aside0 (Below w.heap.size w ((w18.setCell ⟨gb666, 0, none⟩ (.int .i64 t663)).setCell ⟨gb666, 1, none⟩ (.int .i64 t664))) := ⟨by repeat (first | (with_reducible first | exact HB.out | apply pa_' | apply pn_' | apply pd_' | refine pt_' ?_ GE662.out | refine pt_' ?_ GE666.out) | exact HB.out)⟩
         (try clear HO_6)
         (try clear BK662)
         (try clear BK666)
         (try clear HB)
         generalize ((w18.setCell ⟨gb666, 0, none⟩ (.int .i64 t663)).setCell ⟨gb666, 1, none⟩ (.int .i64 t664)) = w21 at n0_ n1_ n2_ n3_ ⊢
         have HO_6 := n0_
         have BK662 := n1_
         have BK666 := n2_
         have HB := n3_
         clear n0_ n1_ n2_ n3_
         have n0_ := sk_' (rd1_' HO_6.out)
         have n1_ := sk_' (kd_' BK662.out)
         have n2_ := sk_' (kd_' BK666.out)
         have n3_ := sk_' (pd_' HB.out)
         clear HO_6
         clear BK662
         clear BK666
         clear HB
         have HO_6 := n0_
         have BK662 := n1_
         have BK666 := n2_
         have HB := n3_
         clear n0_ n1_ n2_ n3_
         refine start_ (n := 9) (S := fun w' => w'.cell? ⟨gb666, 0, none⟩ = some (.int .i64 t663) ∧ w'.cell? ⟨gb666, 1, none⟩ = some (.int .i64 t664) ∧ w'.cell? ⟨gb662, 0, none⟩ = some (.int .i64 ((rd_T26 l0 x18_1).f0)) ∧ w'.cell? ⟨gb662, 1, none⟩ = some (.int .i64 ((rd_T26 l0 x18_1).f1)) ∧ w'.cell? ⟨gb662, 2, none⟩ = some (.int .i64 ((rd_T26 l0 x18_1).f2)) ∧ w'.cell? ⟨gb662, 3, none⟩ = some (.int .i64 ((rd_T26 l0 x18_1).f3))) (ds := []) #[false, false, false, false, false, false, false, false, false] (by kernel_rfl) rfl rfl ⟨(kc_' BK666.out 0).trans rfl, (kc_' BK666.out 1).trans rfl, (kc_' BK662.out 0).trans rfl, (kc_' BK662.out 1).trans rfl, (kc_' BK662.out 2).trans rfl, (kc_' BK662.out 3).trans rfl⟩ (fun hHeld => ?_); refine with_tabW impl_PlayScore.tab10 impl_PlayScore.bits10 (fun HT_ HW_ => ?_)
         generalize w21.drew = w22 at HO_6 BK662 BK666 HB hHeld ⊢
         refine pure_ (i := 0) (N := some 32) (v := ?_) (a' := ?_) #[true, false, false, false, false, false, false, false, false] rfl rfl (any_of HT_.out (by kernel_rfl)) (fun _ _ _ h => h) (Or.inl ⟨by rfl, ?_⟩) ?_ ?_
         rotate_left
         ·
          intro w'
          go_simp
          with_reducible rfl
         rotate_left
         ·
          simp only [Act.put, sa_', sz_', sc_', i64_w, i32_w]
          rfl
         refine pure_ (i := 3) (N := some 35) (v := ?_) (a' := ?_) #[true, false, false, true, false, false, false, false, false] rfl rfl (any_of HT_.out (by kernel_rfl)) (fun _ _ _ h => h) (Or.inl ⟨by rfl, ?_⟩) ?_ ?_
         rotate_left
         ·
          intro w'
          go_simp
          with_reducible rfl
         rotate_left
         ·
          simp only [Act.put, sa_', sz_', sc_', i64_w, i32_w]
          rfl
         refine take_ (i := 1) (N := some 33) (v := ?_) (a' := ?_) #[true, true, false, true, false, false, false, false, false] rfl rfl (take_ofW HT_.out HW_.out (by kernel_rfl)) (fun _ _ _ h => h) (Or.inl ⟨by rfl, ?_⟩) hHeld ?_ ?_
         rotate_left
         ·
          rintro w' ⟨s0, s1, s2, s3, s4, s5⟩
          go_simp
          with_reducible rfl
         rotate_left
         ·
          simp only [Act.put, sa_', sz_', sc_', i64_w, i32_w]
          rfl
         refine take_ (i := 4) (N := some 36) (v := ?_) (a' := ?_) #[true, true, false, true, true, false, false, false, false] rfl rfl (take_ofW HT_.out HW_.out (by kernel_rfl)) (fun _ _ _ h => h) (Or.inl ⟨by rfl, ?_⟩) hHeld ?_ ?_
         rotate_left
         ·
          rintro w' ⟨s0, s1, s2, s3, s4, s5⟩
          go_simp
          with_reducible rfl
         rotate_left
         ·
          simp only [Act.put, sa_', sz_', sc_', i64_w, i32_w]
          rfl
         refine one_ (i := 2) (N := some 34) #[true, true, true, true, true, false, false, false, false] rfl rfl (one_of HT_.out (by kernel_rfl)) (by decide) (fun K hK => ?_)
         refine goes_ Try.func95 (by kernel_rfl) rfl #[.agg #[.int .i64 t663, .int .i64 t664]] (by rfl) rfl rfl (by (try simp only [xm_', xc_', xn_']); first | done | rfl | (simp only [xd_', xt_']; rfl)) ?_
         with_reducible refine (impl_FloorRatio.calls k1 t663 t664 t667 _ A13.out).mono ?_
         rintro e w23 ⟨rfl, hb⟩
         refine ⟨_, rfl, ?_⟩
         have n0_ := sk_' (xb_' (by (with_reducible repeat (first | apply ra_' | apply rn_' | apply rd1_')); exact HO_6.out) hb)
         have n1_ := sk_' (blk_below (g := gb662) (o := .cells #[.int .i64 ((rd_T26 l0 x18_1).f0), .int .i64 ((rd_T26 l0 x18_1).f1), .int .i64 ((rd_T26 l0 x18_1).f2), .int .i64 ((rd_T26 l0 x18_1).f3)] 26 (0, 0)) (by (with_reducible repeat (first | refine kn_' ?_ _ | refine kd_' ?_ | refine ka_' ?_ _)); exact BK662.out) hb)
         have n2_ := sk_' (blk_below (g := gb666) (o := .cells #[.int .i64 t663, .int .i64 t664] 95 (0, 0)) (by (with_reducible repeat (first | refine kn_' ?_ _ | refine kd_' ?_ | refine ka_' ?_ _)); exact BK666.out) hb)
         have n3_ := sk_' (pp_' (by repeat (first | (with_reducible first | exact HB.out | apply pa_' | apply pn_' | apply pd_' | refine pt_' ?_ GE662.out | refine pt_' ?_ GE666.out) | exact HB.out)) hb)
         clear HO_6
         clear BK662
         clear BK666
         clear HB
         have HO_6 := n0_
         have BK662 := n1_
         have BK666 := n2_
         have HB := n3_
         clear n0_ n1_ n2_ n3_
         (try clear hb)
         (try clear hb2)
         (try clear hk)
         (try clear hi)
         refine hK.out _ _ ⟨(kc_' BK666.out 0).trans rfl, (kc_' BK666.out 1).trans rfl, (kc_' BK662.out 0).trans rfl, (kc_' BK662.out 1).trans rfl, (kc_' BK662.out 2).trans rfl, (kc_' BK662.out 3).trans rfl⟩ (fun hHeld => ?_)
         clear hK K
         refine norm_ (a' := ?_) ?_ ?_
         rotate_left
         ·
          show Act.put _ (some 34) _ = _
          simp only [Act.put, sa_', sz_', sc_', i64_w, i32_w]
          rfl
         refine pure_ (i := 5) (N := some 37) (v := ?_) (a' := ?_) #[true, true, true, true, true, true, false, false, false] rfl rfl (any_of HT_.out (by kernel_rfl)) (fun _ _ _ h => h) (Or.inl ⟨by rfl, ?_⟩) ?_ ?_
         rotate_left
         ·
          intro w'
          go_simp
          with_reducible rfl
         rotate_left
         ·
          simp only [Act.put, sa_', sz_', sc_', i64_w, i32_w]
          rfl
         refine one_ (i := 6) (N := some 38) #[true, true, true, true, true, true, true, false, false] rfl rfl (one_of HT_.out (by kernel_rfl)) (by decide) (fun K hK => ?_)
         refine value_ (w1 := ?_) (v := ?_) (by rfl) rfl ?_ ?_
         rotate_left 2
         ·
          go_simp
          constructor
          ·
           rfl
          rfl
         refine hK.out _ _ ⟨(kc_' (ka_' BK666.out _) 0).trans rfl, (kc_' (ka_' BK666.out _) 1).trans rfl, (kc_' (ka_' BK662.out _) 0).trans rfl, (kc_' (ka_' BK662.out _) 1).trans rfl, (kc_' (ka_' BK662.out _) 2).trans rfl, (kc_' (ka_' BK662.out _) 3).trans rfl⟩ (fun hHeld => ?_)
         clear hK K
         refine norm_ (a' := ?_) ?_ ?_
         rotate_left
         ·
          show Act.put _ (some 38) _ = _
          simp only [Act.put, sa_', sz_', sc_', i64_w, i32_w]
          rfl
         refine one_ (i := 7) (N := some 39) #[true, true, true, true, true, true, true, true, false] rfl rfl (one_of HT_.out (by kernel_rfl)) (by decide) (fun K hK => ?_)
         refine Kd.R_append_step k49 (w0 := w) w.heap.size (by rfl) (.tmp 32) (.tmp 38) 44 49 (.agg #[(.int .i64 0), (.int .i64 0)]) 16 rfl Try.underlying44 info49 rfl (by decide) (by omega) u6 x6_1 (⟨t667, (rd_T26 l0 x18_1).f2⟩ : S49) [.int .i64 t667, .int .i64 ((rd_T26 l0 x18_1).f2)] (fun _ => True) (fun _ => False) rfl rfl ?aP (fun _ hk => hk.elim) ?aF ?aO ?aB ?aS ?aL ?_
         (case aP => exact k49_mkM _ _ _ (⟨t667, (rd_T26 l0 x18_1).f2⟩ : S49))
         (case aB => exact (by repeat (first | (with_reducible first | exact HB.out | apply pa_' | apply pn_' | apply pd_' | refine pt_' ?_ GE662.out | refine pt_' ?_ GE666.out) | exact HB.out)))
         (case aF => exact (fun _ _ => trivial))
         (case aO => exact (by (with_reducible repeat (first | apply ra_' | apply rn_' | apply rd1_')); exact HO_6.out))
         (case aS => exact (ps_' (by repeat (first | (with_reducible first | exact HB.out | apply pa_' | apply pn_' | apply pd_' | refine pt_' ?_ GE662.out | refine pt_' ?_ GE666.out) | exact HB.out))))
         (case aL => have := LMc14.out; omega)
         intro v669 w24 ho hb hg hat
         rw [← Ny668.out] at ho
         have n0_ := sk_' (blk_grown (g := gb662) (o := .cells #[.int .i64 ((rd_T26 l0 x18_1).f0), .int .i64 ((rd_T26 l0 x18_1).f1), .int .i64 ((rd_T26 l0 x18_1).f2), .int .i64 ((rd_T26 l0 x18_1).f3)] 26 (0, 0)) (by (with_reducible repeat (first | refine kn_' ?_ _ | refine kd_' ?_ | refine ka_' ?_ _)); exact BK662.out) hg (Kd.R_ne HO_6.out BK662.out (by decide)))
         have n1_ := sk_' (blk_grown (g := gb666) (o := .cells #[.int .i64 t663, .int .i64 t664] 95 (0, 0)) (by (with_reducible repeat (first | refine kn_' ?_ _ | refine kd_' ?_ | refine ka_' ?_ _)); exact BK666.out) hg (Kd.R_ne HO_6.out BK666.out (by decide)))
         have n2_ := sk_' (hb)
         have n3_ := sk_' (ho)
         clear BK662
         clear BK666
         clear HB
         clear HO_6
         have BK662 := n0_
         have BK666 := n1_
         have HB := n2_
         have HO670 := n3_
         clear n0_ n1_ n2_ n3_
         clear ho hb hg hat
         refine hK.out _ _ ⟨(kc_' BK666.out 0).trans rfl, (kc_' BK666.out 1).trans rfl, (kc_' BK662.out 0).trans rfl, (kc_' BK662.out 1).trans rfl, (kc_' BK662.out 2).trans rfl, (kc_' BK662.out 3).trans rfl⟩ (fun hHeld => ?_)
         clear hK K
         refine norm_ (a' := ?_) ?_ ?_
         rotate_left
         ·
          show Act.put _ (some 39) _ = _
          simp only [Act.put, sa_', sz_', sc_', i64_w, i32_w]
          rfl
         refine pure_ (i := 8) (N := some 6) (v := ?_) (a' := ?_) #[true, true, true, true, true, true, true, true, true] rfl rfl (any_of HT_.out (by kernel_rfl)) (fun _ _ _ h => h) (Or.inl ⟨by rfl, ?_⟩) ?_ ?_
         rotate_left
         ·
          intro w'
          go_simp
          with_reducible rfl
         rotate_left
         ·
          simp only [Act.put, sa_', sz_', sc_', i64_w, i32_w]
          rfl
         refine done_ (done_of HT_.out (by kernel_rfl)) ?_
         try go_wp2
         go_roundg k1
         case measure => have := HK1.out; omega
         case rel => exact ⟨(y668), (wrap64 (x18_1 + 1)), (by first | rfl | (simp; done) | (simp [*]; done)), H', ⟨by have := HK1.out; omega⟩, ⟨by (with_reducible repeat (first | apply ra_' | apply rn_' | apply rd1_')); exact HO670.out⟩, ⟨by repeat (first | (with_reducible first | exact HB.out | apply pa_' | apply pn_' | apply pd_' | refine pt_' ?_ GE662.out | refine pt_' ?_ GE666.out) | exact HB.out)⟩⟩
        rw [if_neg c14] at H
        exact absurd H (by simp)
       replace c12 := Bool.eq_false_iff.mpr c12
       subst c12
       rw [if_neg (show ¬ (false = true) by decide)] at H
       obtain ⟨y671, hy671⟩ : ∃ y_ : List (S49), y_ = (([] : List (S49))) := ⟨_, rfl⟩
       replace H : (some (y671, false)) = some (r1, r2) := by first | (rw [hy671]; with_reducible exact H) | (have H2_ := (Option.bind_some _ _).symm.trans H; rw [hy671]; with_reducible exact H2_) | (have H2_ := (Option.bind_some _ _).symm.trans H; with_reducible exact H2_) | with_reducible exact H | (rw [hy671]; exact H) | exact H
       have Ny671 := sk_' hy671
       clear hy671
       simp only [Option.some.injEq, Prod.mk.injEq] at H
       obtain ⟨rfl, rfl⟩ := H
       have p661 : 0 ≤ (x18_1 : Int) := od_' (by first | (with_reducible assumption) | assumption)
       have q661 : x18_1 < (l0.length : Int) := od_' (by first | (with_reducible assumption) | assumption)
       obtain ⟨ad661, e661, hx661_0, hx661_1, hx661_2, hx661_3⟩ := at_T26 HR0.out x18_1 p661 q661
       cases e661
       replace hx661_0 := (HB.out.cell (bq_' w _ hx661_0)).trans hx661_0
       replace hx661_1 := (HB.out.cell (bq_' w _ hx661_1)).trans hx661_1
       replace hx661_2 := (HB.out.cell (bq_' w _ hx661_2)).trans hx661_2
       replace hx661_3 := (HB.out.cell (bq_' w _ hx661_3)).trans hx661_3
       replace p661 := eq_true p661
       replace q661 := eq_true q661
       go_wp2_with (first | ((with_reducible refine gate_dst (N := 8) rfl ?_); refine box_event ?hg (N := 8) ?hd (cs := #[.int .i64 0, .int .i64 0, .int .i64 0, .int .i64 0]) (t := 26) ?hr ?_; (case hd => rfl); (case hg => rfl); (case hr => first | (go_simp; done) | (go_simp; rfl)); intro gb662 hg w25 hbox hb; have n0_ := sk_' (xb_' (by (with_reducible repeat (first | apply ra_' | apply rn_' | apply rd1_')); exact HO_6.out) hb); have n1_ := sk_' (pp_' (by repeat (first | (with_reducible first | exact HB.out | apply pa_' | apply pn_' | apply pd_') | exact HB.out)) hb); have n2_ := sk_' (hbox); have n3_ := sk_' ((by rw [hg]; exact (ps_' (by repeat (first | (with_reducible first | exact HB.out | apply pa_' | apply pn_' | apply pd_') | exact HB.out))) : w.heap.size ≤ gb662)); have n4_ := sk_' ((by rw [hg]; exact (ps_' (by repeat (first | (with_reducible first | exact HB.out | apply pa_' | apply pn_' | apply pd_') | exact HB.out))) : w.heap.size ≤ gb662)); clear HO_6; clear HB; have HO_6 := n0_; have HB := n1_; have BK662 := n2_; have GW662 := n3_; have GE662 := n4_; clear n0_ n1_ n2_ n3_ n4_; clear hb hbox hg; have hcz26_0 : w25.cell? ⟨gb662, 0, none⟩ = some (.int .i64 0) := (kc_' BK662.out 0).trans rfl; have hcz26_1 : w25.cell? ⟨gb662, 1, none⟩ = some (.int .i64 0) := (kc_' BK662.out 1).trans rfl; have hcz26_2 : w25.cell? ⟨gb662, 2, none⟩ = some (.int .i64 0) := (kc_' BK662.out 2).trans rfl; have hcz26_3 : w25.cell? ⟨gb662, 3, none⟩ = some (.int .i64 0) := (kc_' BK662.out 3).trans rfl; have hfz26_0 := kf_' BK662.out 0; have hfz26_1 := kf_' BK662.out 1; have hfz26_2 := kf_' BK662.out 2; have hfz26_3 := kf_' BK662.out 3) | ((with_reducible refine xj_' (f := 57) rfl ?_); refine goesL_ (some 26) rfl rfl Try.func57 (by kernel_rfl) rfl #[.slice A1 l1.length c1, .int .i64 ((rd_T26 l0 x18_1).f0)] rfl (by (try simp only [xm_', xc_', xn_']); first | done | rfl | (simp only [xd_', xt_']; rfl)) ?_; (with_reducible refine (impl_TimeOf.calls k1 _ _ l1 ((rd_T26 l0 x18_1).f0) t663 t664 false _ ?side1 ?side2 A11.out).mono ?_); (case side1 => exact Kd.C_below HR1.out (by repeat (first | (with_reducible first | exact HB.out | apply pa_' | apply pn_' | apply pd_' | refine pt_' ?_ GE662.out) | exact HB.out))); (case side2 => exact HC1.out); rintro e w27 ⟨rfl, hb⟩; refine ⟨_, rfl, ?_⟩; have n0_ := sk_' (xb_' (by (with_reducible repeat (first | apply ra_' | apply rn_' | apply rd1_')); exact (xi_' (Kd.R_far (p := ⟨gb662, 3, none⟩) (Kd.R_far (p := ⟨gb662, 2, none⟩) (Kd.R_far (p := ⟨gb662, 1, none⟩) (Kd.R_far (p := ⟨gb662, 0, none⟩) (Kd.R_types HO_6.out BK662.out (by decide)) (fun _ hk => hk.2) (.int .i64 ((rd_T26 l0 x18_1).f0))) (fun _ hk => hk.2) (.int .i64 ((rd_T26 l0 x18_1).f1))) (fun _ hk => hk.2) (.int .i64 ((rd_T26 l0 x18_1).f2))) (fun _ hk => hk.2) (.int .i64 ((rd_T26 l0 x18_1).f3))) (fun _ h_ => h_.1))) hb); have n1_ := sk_' (blk_below (g := gb662) (o := .cells #[.int .i64 ((rd_T26 l0 x18_1).f0), .int .i64 ((rd_T26 l0 x18_1).f1), .int .i64 ((rd_T26 l0 x18_1).f2), .int .i64 ((rd_T26 l0 x18_1).f3)] 26 (0, 0)) (by (with_reducible repeat (first | refine kn_' ?_ _ | refine kd_' ?_ | refine ka_' ?_ _)); refine blk_put (cs := #[.int .i64 ((rd_T26 l0 x18_1).f0), .int .i64 ((rd_T26 l0 x18_1).f1), .int .i64 ((rd_T26 l0 x18_1).f2), .int .i64 0]) ?_ 3 _ rfl; (with_reducible repeat (first | refine kn_' ?_ _ | refine kd_' ?_ | refine ka_' ?_ _)); refine blk_put (cs := #[.int .i64 ((rd_T26 l0 x18_1).f0), .int .i64 ((rd_T26 l0 x18_1).f1), .int .i64 0, .int .i64 0]) ?_ 2 _ rfl; (with_reducible repeat (first | refine kn_' ?_ _ | refine kd_' ?_ | refine ka_' ?_ _)); refine blk_put (cs := #[.int .i64 ((rd_T26 l0 x18_1).f0), .int .i64 0, .int .i64 0, .int .i64 0]) ?_ 1 _ rfl; (with_reducible repeat (first | refine kn_' ?_ _ | refine kd_' ?_ | refine ka_' ?_ _)); refine blk_put (cs := #[.int .i64 0, .int .i64 0, .int .i64 0, .int .i64 0]) ?_ 0 _ rfl; (with_reducible repeat (first | refine kn_' ?_ _ | refine kd_' ?_ | refine ka_' ?_ _)); exact BK662.out) hb); have n2_ := sk_' (pp_' (by repeat (first | (with_reducible first | exact HB.out | apply pa_' | apply pn_' | apply pd_' | refine pt_' ?_ GE662.out) | exact HB.out)) hb); clear HO_6; clear BK662; clear HB; have HO_6 := n0_; have BK662 := n1_; have HB := n2_; clear n0_ n1_ n2_; (try clear hb); (try clear hb2); (try clear hk); (try clear hi)) | ((with_reducible refine gate_dst (N := 9) rfl ?_); refine box_event ?hg (N := 9) ?hd (cs := #[.int .i64 0, .int .i64 0]) (t := 95) ?hr ?_; (case hd => rfl); (case hg => rfl); (case hr => first | (go_simp; done) | (go_simp; rfl)); intro gb666 hg w28 hbox hb; have n0_ := sk_' (xb_' (by (with_reducible repeat (first | apply ra_' | apply rn_' | apply rd1_')); exact HO_6.out) hb); have n1_ := sk_' (blk_below (g := gb662) (o := .cells #[.int .i64 ((rd_T26 l0 x18_1).f0), .int .i64 ((rd_T26 l0 x18_1).f1), .int .i64 ((rd_T26 l0 x18_1).f2), .int .i64 ((rd_T26 l0 x18_1).f3)] 26 (0, 0)) (by (with_reducible repeat (first | refine kn_' ?_ _ | refine kd_' ?_ | refine ka_' ?_ _)); exact BK662.out) hb); have n2_ := sk_' (pp_' (by repeat (first | (with_reducible first | exact HB.out | apply pa_' | apply pn_' | apply pd_' | refine pt_' ?_ GE662.out) | exact HB.out)) hb); have n3_ := sk_' (hbox); have n4_ := sk_' ((by rw [hg]; exact (ps_' (by repeat (first | (with_reducible first | exact HB.out | apply pa_' | apply pn_' | apply pd_' | refine pt_' ?_ GE662.out) | exact HB.out))) : w.heap.size ≤ gb666)); have n5_ := sk_' ((by rw [hg]; exact (ps_' (by repeat (first | (with_reducible first | exact HB.out | apply pa_' | apply pn_' | apply pd_' | refine pt_' ?_ GE662.out) | exact HB.out))) : w.heap.size ≤ gb666)); have n6_ := sk_' ((by rw [hg]; exact Nat.ne_of_lt (blk_lt (g := gb662) (o := .cells #[.int .i64 ((rd_T26 l0 x18_1).f0), .int .i64 ((rd_T26 l0 x18_1).f1), .int .i64 ((rd_T26 l0 x18_1).f2), .int .i64 ((rd_T26 l0 x18_1).f3)] 26 (0, 0)) (by (with_reducible repeat (first | refine kn_' ?_ _ | refine kd_' ?_ | refine ka_' ?_ _)); exact BK662.out)) : gb662 ≠ gb666)); have n7_ := sk_' ((by rw [hg]; exact Nat.ne_of_gt (blk_lt (g := gb662) (o := .cells #[.int .i64 ((rd_T26 l0 x18_1).f0), .int .i64 ((rd_T26 l0 x18_1).f1), .int .i64 ((rd_T26 l0 x18_1).f2), .int .i64 ((rd_T26 l0 x18_1).f3)] 26 (0, 0)) (by (with_reducible repeat (first | refine kn_' ?_ _ | refine kd_' ?_ | refine ka_' ?_ _)); exact BK662.out)) : gb666 ≠ gb662)); clear HO_6; clear BK662; clear HB; have HO_6 := n0_; have BK662 := n1_; have HB := n2_; have BK666 := n3_; have GW666 := n4_; have GE666 := n5_; have NB662_666 := n6_; have NB666_662 := n7_; clear n0_ n1_ n2_ n3_ n4_ n5_ n6_ n7_; clear hb hbox hg; have hnb29 := NB666_662.out; have hnc29 := NB662_666.out; have hcz30_0 : w28.cell? ⟨gb666, 0, none⟩ = some (.int .i64 0) := (kc_' BK666.out 0).trans rfl; have hcz30_1 : w28.cell? ⟨gb666, 1, none⟩ = some (.int .i64 0) := (kc_' BK666.out 1).trans rfl; have hfz30_0 := kf_' BK666.out 0; have hfz30_1 := kf_' BK666.out 1) | ((with_reducible refine gate_dst (N := 31) rfl ?_); refine Kd.R_lit k49 _ 49 ?hg (N := 31) ?hd (xs := ([] : List (S49))) (inner := []) (ok := fun _ => True) (okp := fun _ => True) ?hr ?hp (fun _ hk => hk) trivial (Below.refl _ _) (Nat.le_refl _) (by simp) ?_; (case hd => rfl); (case hg => rfl); (case hr => first | (go_simp; done) | (go_simp; rfl)); (case hp => exact (Reps.none _ _)); intro v672 w31 ho32 hb hg_ hnew_; clear hg_ hnew_; (first | rw [← Ny671.out] at ho32 | (simp only [Int.reduceToNat] at ho32; rw [← Ny671.out] at ho32)); have n0_ := sk_' (Kd.R_elder' (by (with_reducible repeat (first | apply ra_' | apply rn_' | apply rd1_')); exact (xi_' (Kd.R_far (p := ⟨gb666, 1, none⟩) (Kd.R_far (p := ⟨gb666, 0, none⟩) (Kd.R_types HO_6.out BK666.out (by decide)) (fun _ hk => hk.2) (.int .i64 t663)) (fun _ hk => hk.2) (.int .i64 t664)) (fun _ h_ => h_.1))) (Kd.R_base ho32) hb); have n1_ := sk_' (Kd.R_lower (Kd.R_new' ho32 (Kd.R_lt (by (with_reducible repeat (first | apply ra_' | apply rn_' | apply rd1_')); exact (xi_' (Kd.R_far (p := ⟨gb666, 1, none⟩) (Kd.R_far (p := ⟨gb666, 0, none⟩) (Kd.R_types HO_6.out BK666.out (by decide)) (fun _ hk => hk.2) (.int .i64 t663)) (fun _ hk => hk.2) (.int .i64 t664)) (fun _ h_ => h_.1))))) (ps_' (by repeat (first | (with_reducible first | exact HB.out | apply pa_' | apply pn_' | apply pd_' | refine pt_' ?_ GE662.out | refine pt_' ?_ GE666.out) | exact HB.out)))); have n2_ := sk_' (blk_below (g := gb662) (o := .cells #[.int .i64 ((rd_T26 l0 x18_1).f0), .int .i64 ((rd_T26 l0 x18_1).f1), .int .i64 ((rd_T26 l0 x18_1).f2), .int .i64 ((rd_T26 l0 x18_1).f3)] 26 (0, 0)) (by (with_reducible repeat (first | refine kn_' ?_ _ | refine kd_' ?_ | refine ka_' ?_ _)); refine blk_far ?_ NB662_666.out _; (with_reducible repeat (first | refine kn_' ?_ _ | refine kd_' ?_ | refine ka_' ?_ _)); refine blk_far ?_ NB662_666.out _; (with_reducible repeat (first | refine kn_' ?_ _ | refine kd_' ?_ | refine ka_' ?_ _)); exact BK662.out) hb); have n3_ := sk_' (blk_below (g := gb666) (o := .cells #[.int .i64 t663, .int .i64 t664] 95 (0, 0)) (by (with_reducible repeat (first | refine kn_' ?_ _ | refine kd_' ?_ | refine ka_' ?_ _)); refine blk_put (cs := #[.int .i64 t663, .int .i64 0]) ?_ 1 _ rfl; (with_reducible repeat (first | refine kn_' ?_ _ | refine kd_' ?_ | refine ka_' ?_ _)); refine blk_put (cs := #[.int .i64 0, .int .i64 0]) ?_ 0 _ rfl; (with_reducible repeat (first | refine kn_' ?_ _ | refine kd_' ?_ | refine ka_' ?_ _)); exact BK666.out) hb); have n4_ := sk_' (pp_' (by repeat (first | (with_reducible first | exact HB.out | apply pa_' | apply pn_' | apply pd_' | refine pt_' ?_ GE662.out | refine pt_' ?_ GE666.out) | exact HB.out)) hb); clear HO_6; clear BK662; clear BK666; clear HB; have HO_6 := n0_; have HO673 := n1_; have BK662 := n2_; have BK666 := n3_; have HB := n4_; clear n0_ n1_ n2_ n3_ n4_; clear hb ho32))
       go_ret2
       exact ⟨_, by first | rfl | (simp [errW_none, errW_some] <;> rfl) | (simp [*, errW_none, errW_some] <;> rfl), by (with_reducible repeat (first | apply ra_' | apply rn_' | apply rd1_')); exact xi_' HO673.out (fun _ hk => trivial), by repeat (first | (with_reducible first | exact HB.out | apply pa_' | apply pn_' | apply pd_' | refine pt_' ?_ GE662.out | refine pt_' ?_ GE666.out) | exact HB.out)⟩
      rw [if_neg c10] at H
      exact absurd H (by simp)
     rw [if_neg c9] at H
     exact absurd H (by simp)
    rw [if_neg c8] at H
    have c8b0 : decide (x18_1 < (l0.length : Int)) = false := decide_eq_false c8
    clear c8
    by_cases cl_ : x6_1.length < 4611686018427387904
    ·
     rw [if_pos cl_] at H
     simp only [Option.some.injEq, Prod.mk.injEq] at H
     obtain ⟨rfl, rfl⟩ := H
     have LCL := sk_' cl_
     clear cl_
     go_wp2_with (first | (go_at_call 96; refine (so_played _ _ _ _ HO_6.out LCL.out).mono ?_; rintro e w1_ ⟨rfl, ho1_, hb1_⟩; have HOs_ := sk_' ho1_; have HBs_ := sk_' (Below.trans HB.out hb1_); clear ho1_ hb1_))
     go_ret2
     exact ⟨_, by first | rfl | (simp [errW_none, errW_some] <;> rfl) | (simp [*, errW_none, errW_some] <;> rfl), by (with_reducible repeat (first | apply ra_' | apply rn_' | apply rd1_')); exact HOs_.out, by repeat (first | (with_reducible first | exact HBs_.out | apply pa_' | apply pn_' | apply pd_') | exact HBs_.out)⟩
    rw [if_neg cl_] at H
    exact absurd H (by simp)
 replace c4 := Bool.eq_false_iff.mpr c4
 subst c4
 rw [if_neg (show ¬ (false = true) by decide)] at H
 simp only [Option.some.injEq, Prod.mk.injEq] at H
 obtain ⟨rfl, rfl⟩ := H
 go_enter Try.func23, Try.ntmps23
 go_wp2_with (first | ((with_reducible refine gate_dst (N := 11) rfl ?_); refine Kd.R_lit k49 _ 49 ?hg (N := 11) ?hd (xs := ([] : List (S49))) (inner := []) (ok := fun _ => True) (okp := fun _ => True) ?hr ?hp (fun _ hk => hk) trivial (Below.refl _ _) (Nat.le_refl _) (by simp) ?_; (case hd => rfl); (case hg => rfl); (case hr => first | (go_simp; done) | (go_simp; rfl)); (case hp => exact (Reps.none _ _)); intro v658 w33 ho34 hb hg_ hnew_; clear hg_ hnew_; (first | rw [← Ny657.out] at ho34 | (simp only [Int.reduceToNat] at ho34; rw [← Ny657.out] at ho34)); have n0_ := sk_' (Kd.R_lower ho34 (ps_' (by repeat (first | (with_reducible first | exact HB.out | apply pa_' | apply pn_' | apply pd_') | exact HB.out)))); have n1_ := sk_' (pp_' (by repeat (first | (with_reducible first | exact HB.out | apply pa_' | apply pn_' | apply pd_') | exact HB.out)) hb); clear HB; have HO659 := n0_; have HB := n1_; clear n0_ n1_; clear hb ho34) | ((with_reducible refine xj_' (f := 14) rfl ?_); refine goesL_ (some 13) rfl rfl Try.func14 (by kernel_rfl) rfl #[.slice A0 l0.length c0] rfl (by (try simp only [xm_', xc_', xn_']); first | done | rfl | (simp only [xd_', xt_']; rfl)) ?_; (with_reducible refine (impl_IsScore.calls k _ _ l0 false _ ?side1 ?side2 A3.out).mono ?_); (case side1 => repeat (first | exact (Kd.C_below HR0.out HB.out) | (with_reducible refine xg_' ?_ _) | (with_reducible refine xe_' ?_ _) | (with_reducible refine xf_' ?_))); (case side2 => exact HC0.out); rintro e w35 ⟨rfl, hb⟩; refine ⟨_, rfl, ?_⟩; have n0_ := sk_' (xb_' (by (with_reducible repeat (first | apply ra_' | apply rn_' | apply rd1_')); exact HO659.out) hb); have n1_ := sk_' (pp_' (by repeat (first | (with_reducible first | exact HB.out | apply pa_' | apply pn_' | apply pd_') | exact HB.out)) hb); clear HO659; clear HB; have HO659 := n0_; have HB := n1_; clear n0_ n1_; (try clear hb); (try clear hb2); (try clear hk); (try clear hi)))
 go_ret2
 exact ⟨_, by first | rfl | (simp [errW_none, errW_some] <;> rfl) | (simp [*, errW_none, errW_some] <;> rfl), by (with_reducible repeat (first | apply ra_' | apply rn_' | apply rd1_')); exact HO659.out, by repeat (first | (with_reducible first | exact HB.out | apply pa_' | apply pn_' | apply pd_') | exact HB.out)⟩
end Go.Proofs.Ytbhlmeghbfmgiaa.F

namespace Go.Proofs.Ytbhlmeghbfmgiaa.F
open Go.RowKit Go.Proofs.YtbhlmeghbfmgiaaW.PrintWords Go.Proofs.YtbhlmeghbfmgiaaW.PrintLast Go.Proofs.YtbhlmeghbfmgiaaW.PrintMore
attribute [local go_sem] max2_int min2_int max_two min_two max_three min_three max_four min_four
set_option linter.unusedVariables false
set_option linter.unusedSimpArgs false
def spec_l4Gcd.l0 : Nat → Int → Int → Option (Int)
 | 0, _, _ => none
 | k + 1, x0, x1 => if x1 = 0 then (some x0) else (spec_l4Gcd.l0 k x1 (Int.tmod x0 x1))
def spec_l4Gcd.f (k : Nat) (a0 : Int) (a1 : Int) : Option (Int) := spec_l4Gcd.l0 k a0 a1
set_option maxHeartbeats 8000000 in
set_option maxRecDepth 100000 in
theorem spec_l4Gcd.calls (k : Nat) (a0 : Int) (a1 : Int) (r : Int) (w : World) (h : spec_l4Gcd.f k a0 a1 = some r) :
  Calls Try.prog 155 #[.int .i64 a0, .int .i64 a1] w fun e w' => e = .returned (.int .i64 r) ∧ Drawn0 w w' := by
 have H : (spec_l4Gcd.l0 k a0 a1) = some r := h
 clear h
 have H' := sk_' H
 clear H
 go_enter Try.func155, Try.ntmps155
 go_wp2
 repeat (go_quiet (fail); try go_wp2)
 go_loopg [0, 1] k (fun kq v0 v1 w' => ∃ (x0_1 : Int) (x1_1 : Int), v0 = .int .i64 x0_1 ∧ v1 = .int .i64 x1_1 ∧ Aside0 (spec_l4Gcd.l0 kq x0_1 x1_1 = some r) ∧ Aside0 (kq ≤ k) ∧ Drawn0 w w')
 case atStart => exact ⟨(a0), (a1), (by first | rfl | (simp; done) | (simp [*]; done)), (by first | rfl | (simp; done) | (simp [*]; done)), H', ⟨Nat.le_refl _⟩, by repeat (first | exact Drawn0.refl _ | apply Drawn0.step)⟩
 case round =>
  clear H'
  try clear c1
  try clear p2
  obtain ⟨x0_1, x1_1, rfl, rfl, HA, HK1, ⟨m1, rfl⟩⟩ := hrel
  cases gk with
  | zero => exact absurd HA.out (by simp [spec_l4Gcd.l0])
  | succ k1 =>
   have H := HA.out
   clear HA
   simp only [spec_l4Gcd.l0] at H
   by_cases c3 : x1_1 = 0
   ·
    rw [if_pos c3] at H
    have c3b0 : (x1_1 == 0) = true := beq_iff_eq.mpr c3
    have c3b1 : (x1_1 != 0) = false := bne_eq_false_iff_eq.mpr c3
    clear c3
    obtain rfl := Option.some.inj H
    go_wp2
    repeat (go_quiet (fail); try go_wp2)
    go_ret
    exact ⟨by first | rfl | (simp; done) | (simp [*]; done), by repeat (first | exact Drawn0.refl _ | apply Drawn0.step)⟩
   rw [if_neg c3] at H
   have c3b0 : (x1_1 == 0) = false := beq_eq_false_iff_ne.mpr c3
   have c3b1 : (x1_1 != 0) = true := bne_iff_ne.mpr c3
   have H' := sk_' H
   clear H
   go_wp2
   repeat (go_quiet (fail); try go_wp2)
   go_roundg k1
   case measure => have := HK1.out; omega
   case rel => exact ⟨(x1_1), (Int.tmod x0_1 x1_1), (by first | rfl | (simp; done) | (simp [*]; done)), (by first | rfl | (simp; done) | (simp [*]; done)), H', ⟨by have := HK1.out; omega⟩, by repeat (first | exact Drawn0.refl _ | apply Drawn0.step)⟩
end Go.Proofs.Ytbhlmeghbfmgiaa.F

namespace Go.Proofs.Ytbhlmeghbfmgiaa.F
open Go.RowKit Go.Proofs.YtbhlmeghbfmgiaaW.PrintWords Go.Proofs.YtbhlmeghbfmgiaaW.PrintLast Go.Proofs.YtbhlmeghbfmgiaaW.PrintMore
attribute [local go_sem] max2_int min2_int max_two min_two max_three min_three max_four min_four
set_option linter.unusedVariables false
set_option linter.unusedSimpArgs false
def spec_l4Abs.f (a0 : Int) : Option (Int) := if a0 < 0 then (some (wrap64 (-a0))) else (some a0)
set_option maxHeartbeats 8000000 in
set_option maxRecDepth 100000 in
theorem spec_l4Abs.calls (a0 : Int) (r : Int) (w : World) (h : spec_l4Abs.f a0 = some r) :
  Calls Try.prog 156 #[.int .i64 a0] w fun e w' => e = .returned (.int .i64 r) ∧ Drawn0 w w' := by
 have H : (if a0 < 0 then (some (wrap64 (-a0))) else (some a0)) = some r := h
 clear h
 by_cases c2 : a0 < 0
 ·
  rw [if_pos c2] at H
  have c2b0 : decide (a0 < 0) = true := decide_eq_true c2
  clear c2
  obtain rfl := Option.some.inj H
  go_enter Try.func156, Try.ntmps156
  go_wp2
  go_ret
  exact ⟨by first | rfl | (simp; done) | (simp [*]; done), by repeat (first | exact Drawn0.refl _ | apply Drawn0.step)⟩
 rw [if_neg c2] at H
 have c2b0 : decide (a0 < 0) = false := decide_eq_false c2
 clear c2
 obtain rfl := Option.some.inj H
 go_enter Try.func156, Try.ntmps156
 go_wp2
 go_ret
 exact ⟨by first | rfl | (simp; done) | (simp [*]; done), by repeat (first | exact Drawn0.refl _ | apply Drawn0.step)⟩
end Go.Proofs.Ytbhlmeghbfmgiaa.F

namespace Go.Proofs.Ytbhlmeghbfmgiaa.F
open Go.RowKit Go.Proofs.YtbhlmeghbfmgiaaW.PrintWords Go.Proofs.YtbhlmeghbfmgiaaW.PrintLast Go.Proofs.YtbhlmeghbfmgiaaW.PrintMore
attribute [local go_sem] max2_int min2_int max_two min_two max_three min_three max_four min_four
set_option linter.unusedVariables false
set_option linter.unusedSimpArgs false
def spec_IsRatio.f (k : Nat) (a0_0 : Int) (a0_1 : Int) : Option (Bool) := (spec_l1In.f a0_1 1 1000000).bind fun t675 => (if t675 = true then ((spec_l1In.f a0_0 (-1000000000) 1000000000).bind fun t676 => (if t676 = true then ((spec_l4Abs.f a0_0).bind fun t677 => ((spec_l4Gcd.f k t677 a0_1).bind fun t678 => (some (t678 == 1)))) else (some false))) else (some false))
set_option maxHeartbeats 8000000 in
set_option maxRecDepth 100000 in
theorem spec_IsRatio.calls (k : Nat) (a0_0 : Int) (a0_1 : Int) (r : Bool) (w : World) (h : spec_IsRatio.f k a0_0 a0_1 = some r) :
  Calls Try.prog 146 #[.agg #[.int .i64 a0_0, .int .i64 a0_1]] w fun e w' => e = .returned (.bool r) ∧ Below w.heap.size w w' := by
 have hu := Try.underlying95
 have F := sk_' (Fr.of (Below.refl w.heap.size w))
 have H := h
 clear h
 unfold spec_IsRatio.f at H
 replace H := bs_' H
 obtain ⟨t1, B_, H⟩ := H
 have A1 := sk_' B_
 clear B_
 have HA := sk_' H
 clear H
 go_enter Try.func146, Try.ntmps146
 go_upto_region 1 with (first
  | ((with_reducible refine gate_dst (N := 1) rfl ?_); refine box_event ?hg (N := 1) ?hd (cs := #[.int .i64 a0_0, .int .i64 a0_1]) (t := 95) ?hr ?_; (case hd => rfl); (case hg => rfl); (case hr => first | (go_simp; done) | (go_simp; rfl)); intro ga hg w1 hbox hb; have F1 := sk_' (F.out.push hg hbox hb); clear F hbox hb hg; have F := F1; clear F1))
 have H := HA.out
 clear HA
 cases t1 with
 | false =>
  simp only [Bool.false_eq_true, if_false] at H
  obtain rfl := Option.some.inj H
  obtain ⟨gac0, gac1, gaf0, gaf1⟩ := F.out.c2 (i := 0) rfl
  go_quiet ((first | (go_at_call 110; apply Calls.quiet_of; ((with_reducible refine (spec_l1In.calls a0_1 1 1000000 false _ A1.out).mono ?_); exact fun _ _ h_ => ⟨h_.1, h_.2.out⟩))))
  have F1 := sk_' (F.out.step (pn_' (Below.refl _ w1) nq))
  clear gac0 gac1 gaf0 gaf1
  clear F
  generalize w1.drewN nq = w2 at F1 ⊢
  have F := F1
  clear F1
  go_wp2
  go_ret
  exact ⟨by first | rfl | (simp; done) | (simp [*]; done), F.out.below⟩
 | true =>
  simp only [if_true] at H
  replace H := bs_' H
  obtain ⟨t2, B_, H⟩ := H
  have A2 := sk_' B_
  clear B_
  cases t2 with
  | false =>
   simp only [Bool.false_eq_true, if_false] at H
   obtain rfl := Option.some.inj H
   obtain ⟨gac0, gac1, gaf0, gaf1⟩ := F.out.c2 (i := 0) rfl
   go_quiet ((first | (go_at_call 110; apply Calls.quiet_of; ((with_reducible refine (spec_l1In.calls a0_1 1 1000000 true _ A1.out).mono ?_); exact fun _ _ h_ => ⟨h_.1, h_.2.out⟩)) | (go_at_call 110; apply Calls.quiet_of; ((with_reducible refine (spec_l1In.calls a0_0 (-1000000000) 1000000000 false _ A2.out).mono ?_); exact fun _ _ h_ => ⟨h_.1, h_.2.out⟩))))
   have F1 := sk_' (F.out.step (pn_' (Below.refl _ w1) nq))
   clear gac0 gac1 gaf0 gaf1
   clear F
   generalize w1.drewN nq = w2 at F1 ⊢
   have F := F1
   clear F1
   go_wp2
   go_ret
   exact ⟨by first | rfl | (simp; done) | (simp [*]; done), F.out.below⟩
  | true =>
   simp only [if_true] at H
   replace H := bs_' H
   obtain ⟨u1, B_, H⟩ := H
   have A3 := sk_' B_
   clear B_
   replace H := bs_' H
   obtain ⟨g1, B_, H⟩ := H
   have A4 := sk_' B_
   clear B_
   obtain rfl := Option.some.inj H
   obtain ⟨gac0, gac1, gaf0, gaf1⟩ := F.out.c2 (i := 0) rfl
   go_quiet ((first | (go_at_call 110; apply Calls.quiet_of; ((with_reducible refine (spec_l1In.calls a0_1 1 1000000 true _ A1.out).mono ?_); exact fun _ _ h_ => ⟨h_.1, h_.2.out⟩)) | (go_at_call 110; apply Calls.quiet_of; ((with_reducible refine (spec_l1In.calls a0_0 (-1000000000) 1000000000 true _ A2.out).mono ?_); exact fun _ _ h_ => ⟨h_.1, h_.2.out⟩)) | (go_at_call 156; apply Calls.quiet_of; ((with_reducible refine (spec_l4Abs.calls a0_0 u1 _ A3.out).mono ?_); exact fun _ _ h_ => ⟨h_.1, h_.2.out⟩)) | (go_at_call 155; apply Calls.quiet_of; ((with_reducible refine (spec_l4Gcd.calls k u1 a0_1 g1 _ A4.out).mono ?_); exact fun _ _ h_ => ⟨h_.1, h_.2.out⟩))))
   have F1 := sk_' (F.out.step (pn_' (Below.refl _ w1) nq))
   clear gac0 gac1 gaf0 gaf1
   clear F
   generalize w1.drewN nq = w2 at F1 ⊢
   have F := F1
   clear F1
   go_wp2
   go_ret
   exact ⟨by first | rfl | (simp; done) | (simp [*]; done), F.out.below⟩
end Go.Proofs.Ytbhlmeghbfmgiaa.F

namespace Go.Proofs.Ytbhlmeghbfmgiaa.F
open Go.RowKit Go.Proofs.YtbhlmeghbfmgiaaW.PrintWords Go.Proofs.YtbhlmeghbfmgiaaW.PrintLast Go.Proofs.YtbhlmeghbfmgiaaW.PrintMore
attribute [local go_sem] max2_int min2_int max_two min_two max_three min_three max_four min_four
set_option linter.unusedVariables false
set_option linter.unusedSimpArgs false
mutual
def spec_MakeRatio.j0 : Nat → Int → Int → Bool → Option (Int × Int × Bool)
 | 0, _, _, _ => none
 | k + 1, x0, x1, x26 => if x26 = true then (some (0, 0, false)) else (if x1 < 0 then (spec_MakeRatio.j1 k (wrap64 (-x0)) (wrap64 (-x1))) else (spec_MakeRatio.j1 k x0 x1))
def spec_MakeRatio.j1 : Nat → Int → Int → Option (Int × Int × Bool)
 | 0, _, _ => none
 | k + 1, x0, x1 => (spec_l4Abs.f x0).bind fun t682 => ((spec_l4Gcd.f k t682 x1).bind fun t683 => (if t683 = 0 then (none) else ((spec_IsRatio.f k (wrap64 (Int.tdiv x0 t683)) (wrap64 (Int.tdiv x1 t683))).bind fun t685 => (if t685 = true then (some (wrap64 (Int.tdiv x0 t683), wrap64 (Int.tdiv x1 t683), true)) else (some (0, 0, false))))))
end
def spec_MakeRatio.f (k : Nat) (a0 : Int) (a1 : Int) : Option (Int × Int × Bool) := (spec_l1In.f a0 (-1000000000000000) 1000000000000000).bind fun t680 => (if t680 = true then ((spec_l1In.f a1 (-1000000000000000) 1000000000000000).bind fun t681 => (if t681 = true then (spec_MakeRatio.j0 k a0 a1 (a1 == 0)) else (spec_MakeRatio.j0 k a0 a1 true))) else (spec_MakeRatio.j0 k a0 a1 true))
def spec_MakeRatio.T8 : Bool × List (List Nat × List Nat) := (true, [([], []), ([], []), ([0, 1], [0, 1]), ([], []), ([], []), ([3, 4], [3, 4]), ([2, 5], [2, 5]), ([], []), ([7, 6, 0, 1, 2, 3, 4, 5, 6, 7], [6, 7])])
def spec_MakeRatio.B8 : List Nat := [0, 0, 3, 0, 0, 24, 63, 0, 255]
theorem spec_MakeRatio.tab8 : rtab .any (opsOf Try.f122 8) = spec_MakeRatio.T8 := by kernel_rfl
theorem spec_MakeRatio.bits8 : waitsOk spec_MakeRatio.T8.2 spec_MakeRatio.B8 = true := by kernel_rfl
set_option maxHeartbeats 8000000 in
set_option maxRecDepth 100000 in
theorem spec_MakeRatio.calls (k : Nat) (a0 : Int) (a1 : Int) (r1 : Int) (r2 : Int) (r3 : Bool) (w : World) (h : spec_MakeRatio.f k a0 a1 = some (r1, r2, r3)) :
  Calls Try.prog 122 #[.int .i64 a0, .int .i64 a1] w fun e w' => e = .returned (.tuple #[.agg #[.int .i64 r1, .int .i64 r2], .bool r3]) ∧ Below w.heap.size w w' := by
 have hu := Try.underlying95
 have F := sk_' (Fr.of (Below.refl w.heap.size w))
 have H := h
 clear h
 unfold spec_MakeRatio.f at H
 replace H := bs_' H
 obtain ⟨t1, B_, H⟩ := H
 have A1 := sk_' B_
 clear B_
 have HA := sk_' H
 clear H
 go_enter Try.func122, Try.ntmps122
 go_upto_region 2 with (first
  | ((with_reducible refine gate_dst (N := 4) rfl ?_); refine box_event ?hg (N := 4) ?hd (cs := #[.int .i64 0, .int .i64 0]) (t := 95) ?hr ?_; (case hd => rfl); (case hg => rfl); (case hr => first | (go_simp; done) | (go_simp; rfl)); intro gr hg w1 hbox hb; have F1 := sk_' (F.out.push hg hbox hb); clear F hbox hb hg; have F := F1; clear F1))
 (try simp only [Act.put, sa_', sz_', sc_'])
 go_cut [26] (fun vc wc => ∃ (b : Bool), vc = .bool b ∧ Aside0 (spec_MakeRatio.j0 k a0 a1 b = some (r1, r2, r3)) ∧ Aside0 (Fr w wc [(gr, .cells #[.int .i64 0, .int .i64 0] 95 (0, 0))]))
 case first =>
  have H := HA.out
  clear HA
  cases t1 with
  | false =>
   simp only [Bool.false_eq_true, if_false] at H
   have HA := sk_' H
   clear H
   go_wp2_with (first
    | (go_at_call 110; (with_reducible refine (spec_l1In.calls a0 (-1000000000000000) 1000000000000000 false _ A1.out).mono ?_); rintro e w2 ⟨rfl, hb⟩; have F1 := sk_' (F.out.drawn hb); clear F hb; have F := F1; clear F1))
   go_meet
   case rel => exact ⟨true, (by first | rfl | (simp; done) | (simp [*]; done)), HA, F⟩
  | true =>
   simp only [if_true] at H
   replace H := bs_' H
   obtain ⟨t2, B_, H⟩ := H
   have A2 := sk_' B_
   clear B_
   cases t2 with
   | false =>
    simp only [Bool.false_eq_true, if_false] at H
    have HA := sk_' H
    clear H
    go_wp2_with (first
     | (go_at_call 110; (with_reducible refine (spec_l1In.calls a0 (-1000000000000000) 1000000000000000 true _ A1.out).mono ?_); rintro e w2 ⟨rfl, hb⟩; have F1 := sk_' (F.out.drawn hb); clear F hb; have F := F1; clear F1)
     | (go_at_call 110; (with_reducible refine (spec_l1In.calls a1 (-1000000000000000) 1000000000000000 false _ A2.out).mono ?_); rintro e w3 ⟨rfl, hb⟩; have F1 := sk_' (F.out.drawn hb); clear F hb; have F := F1; clear F1))
    go_meet
    case rel => exact ⟨true, (by first | rfl | (simp; done) | (simp [*]; done)), HA, F⟩
   | true =>
    simp only [if_true] at H
    have HA := sk_' H
    clear H
    go_wp2_with (first
     | (go_at_call 110; (with_reducible refine (spec_l1In.calls a0 (-1000000000000000) 1000000000000000 true _ A1.out).mono ?_); rintro e w2 ⟨rfl, hb⟩; have F1 := sk_' (F.out.drawn hb); clear F hb; have F := F1; clear F1)
     | (go_at_call 110; (with_reducible refine (spec_l1In.calls a1 (-1000000000000000) 1000000000000000 true _ A2.out).mono ?_); rintro e w3 ⟨rfl, hb⟩; have F1 := sk_' (F.out.drawn hb); clear F hb; have F := F1; clear F1))
    go_meet
    case rel => exact ⟨(a1 == 0), (by first | rfl | (simp; done) | (simp [*]; done)), HA, F⟩
 case rest =>
  clear HA F A1
  obtain ⟨b, rfl, HA, F⟩ := hcut
  cases k with
  | zero => exact absurd HA.out (by simp [spec_MakeRatio.j0])
  | succ k2 =>
   have H := HA.out
   clear HA
   simp only [spec_MakeRatio.j0] at H
   cases b with
   | true =>
    simp only [if_true, Option.some.injEq, Prod.mk.injEq] at H
    obtain ⟨rfl, rfl, rfl⟩ := H
    obtain ⟨grc0, grc1, grf0, grf1⟩ := F.out.c2 (i := 0) rfl
    go_wp2
    refine bodyPost_ret (results_ct rfl _ _ gr 95 #[.int .i64 0, .int .i64 0] (0, 0) _ rfl ((F.out.put2 (i := 0) rfl (.int .i64 0) (.int .i64 0)).get (i := 0) (by rfl)) hu rfl (by kernel_rfl)) rfl ?_
    exact ⟨rfl, (F.out.put2 (i := 0) rfl (.int .i64 0) (.int .i64 0)).below⟩
   | false =>
    simp only [Bool.false_eq_true, if_false] at H
    have HA := sk_' H
    clear H
    go_upto_if 29 with (fail)
    (try simp only [Act.put, sa_', sz_', sc_'])
    go_cut [0, 1] (fun v0 v1 wc => ∃ (n d : Int), v0 = .int .i64 n ∧ v1 = .int .i64 d ∧ Aside0 (spec_MakeRatio.j1 k2 n d = some (r1, r2, r3)) ∧ Aside0 (Fr w wc [(gr, .cells #[.int .i64 0, .int .i64 0] 95 (0, 0))]))
    case first =>
     have H := HA.out
     clear HA
     by_cases d1 : a1 < 0
     ·
      rw [if_pos d1] at H
      have d1b : decide (a1 < 0) = true := decide_eq_true d1
      clear d1
      rw [d1b]
      have HA := sk_' H
      clear H
      go_wp2
      go_meet
      case rel => exact ⟨wrap64 (-a0), wrap64 (-a1), (by first | rfl | (simp; done) | (simp [*]; done)), (by first | rfl | (simp; done) | (simp [*]; done)), HA, F⟩
     rw [if_neg d1] at H
     have d1b : decide (a1 < 0) = false := decide_eq_false d1
     clear d1
     rw [d1b]
     have HA := sk_' H
     clear H
     go_wp2
     go_meet
     case rel => exact ⟨a0, a1, (by first | rfl | (simp; done) | (simp [*]; done)), (by first | rfl | (simp; done) | (simp [*]; done)), HA, F⟩
    case rest =>
     clear HA F
     obtain ⟨n, d, rfl, rfl, HA, F⟩ := hcut
     cases k2 with
     | zero => exact absurd HA.out (by simp [spec_MakeRatio.j1])
     | succ k3 =>
      have H := HA.out
      clear HA
      simp only [spec_MakeRatio.j1] at H
      replace H := bs_' H
      obtain ⟨u, B_, H⟩ := H
      have A2 := sk_' B_
      clear B_
      replace H := bs_' H
      obtain ⟨g, B_, H⟩ := H
      have A3 := sk_' B_
      clear B_
      by_cases z1 : g = 0
      ·
       rw [if_pos z1] at H
       exact absurd H (by simp)
      rw [if_neg z1] at H
      have z1a : (g == 0) = false := beq_eq_false_iff_ne.mpr z1
      have z1b : (g != 0) = true := bne_iff_ne.mpr z1
      replace z1 := eq_false z1
      replace H := bs_' H
      obtain ⟨t9, B_, H⟩ := H
      have A4 := sk_' B_
      clear B_
      have HA := sk_' H
      clear H
      go_wp2_with (first
       | (go_at_call 156; (with_reducible refine (spec_l4Abs.calls n u _ A2.out).mono ?_); rintro e w4 ⟨rfl, hb⟩; have F1 := sk_' (F.out.drawn hb); clear F hb; have F := F1; clear F1)
       | (go_at_call 155; (with_reducible refine (spec_l4Gcd.calls k3 u d g _ A3.out).mono ?_); rintro e w5 ⟨rfl, hb⟩; have F1 := sk_' (F.out.drawn hb); clear F hb; have F := F1; clear F1))
      have F1 := sk_' F.out.drew
      clear F
      have F := F1
      clear F1
      refine start_ (n := 9) (S := fun w' => w'.cell? ⟨gr, 0, none⟩ = some (.int .i64 0)) (ds := []) #[false, false, false, false, false, false, false, false, false] (by kernel_rfl) rfl rfl (F.out.c2 (i := 0) rfl).1 (fun hHeld => ?_); refine with_tabW spec_MakeRatio.tab8 spec_MakeRatio.bits8 (fun HT_ HW_ => ?_)
      generalize w5.drew = w6 at F hHeld ⊢
      refine pure_ (i := 0) (N := some 38) (v := ?_) (a' := ?_) #[true, false, false, false, false, false, false, false, false] rfl rfl (any_of HT_.out (by kernel_rfl)) (fun _ _ _ h => h) (Or.inl ⟨by rfl, ?_⟩) ?_ ?_
      rotate_left
      ·
       intro w'
       go_simp
       with_reducible rfl
      rotate_left
      ·
       simp only [Act.put, sa_', sz_', sc_', i64_w, i32_w]
       rfl
      refine pure_ (i := 1) (N := some 39) (v := ?_) (a' := ?_) #[true, true, false, false, false, false, false, false, false] rfl rfl (any_of HT_.out (by kernel_rfl)) (fun _ _ _ h => h) (Or.inl ⟨by rfl, ?_⟩) ?_ ?_
      rotate_left
      ·
       intro w'
       go_simp
       with_reducible rfl
      rotate_left
      ·
       simp only [Act.put, sa_', sz_', sc_', i64_w, i32_w]
       rfl
      refine pure_ (i := 2) (N := some 40) (v := ?_) (a' := ?_) #[true, true, true, false, false, false, false, false, false] rfl rfl (any_of HT_.out (by kernel_rfl)) (fun _ _ _ h => h) (Or.inl ⟨by rfl, ?_⟩) ?_ ?_
      rotate_left
      ·
       intro w'
       go_simp
       with_reducible rfl
      rotate_left
      ·
       simp only [Act.put, sa_', sz_', sc_', i64_w, i32_w]
       rfl
      refine pure_ (i := 3) (N := some 41) (v := ?_) (a' := ?_) #[true, true, true, true, false, false, false, false, false] rfl rfl (any_of HT_.out (by kernel_rfl)) (fun _ _ _ h => h) (Or.inl ⟨by rfl, ?_⟩) ?_ ?_
      rotate_left
      ·
       intro w'
       go_simp
       with_reducible rfl
      rotate_left
      ·
       simp only [Act.put, sa_', sz_', sc_', i64_w, i32_w]
       rfl
      refine pure_ (i := 4) (N := some 42) (v := ?_) (a' := ?_) #[true, true, true, true, true, false, false, false, false] rfl rfl (any_of HT_.out (by kernel_rfl)) (fun _ _ _ h => h) (Or.inl ⟨by rfl, ?_⟩) ?_ ?_
      rotate_left
      ·
       intro w'
       go_simp
       with_reducible rfl
      rotate_left
      ·
       simp only [Act.put, sa_', sz_', sc_', i64_w, i32_w]
       rfl
      refine pure_ (i := 5) (N := some 43) (v := ?_) (a' := ?_) #[true, true, true, true, true, true, false, false, false] rfl rfl (any_of HT_.out (by kernel_rfl)) (fun _ _ _ h => h) (Or.inl ⟨by rfl, ?_⟩) ?_ ?_
      rotate_left
      ·
       intro w'
       go_simp
       with_reducible rfl
      rotate_left
      ·
       simp only [Act.put, sa_', sz_', sc_', i64_w, i32_w]
       rfl
      refine pure_ (i := 6) (N := some 44) (v := ?_) (a' := ?_) #[true, true, true, true, true, true, true, false, false] rfl rfl (any_of HT_.out (by kernel_rfl)) (fun _ _ _ h => h) (Or.inl ⟨by rfl, ?_⟩) ?_ ?_
      rotate_left
      ·
       intro w'
       go_simp
       with_reducible rfl
      rotate_left
      ·
       simp only [Act.put, sa_', sz_', sc_', i64_w, i32_w]
       rfl
      refine one_ (i := 7) (N := some 8) #[true, true, true, true, true, true, true, true, false] rfl rfl (one_of HT_.out (by kernel_rfl)) (by decide) (fun K hK => ?_)
      refine box_step ?hg (N := 8) ?hd (cs := #[.int .i64 0, .int .i64 0]) (t := 95) ?hr ?_; (case hd => rfl); (case hg => rfl); (case hr => first | (go_simp; done) | (go_simp; rfl))
      intro gn hg w7 hbox hb
      have F1 := sk_' (F.out.push hg hbox hb)
      clear F hbox hb hg
      have F := F1
      clear F1
      clear hHeld
      refine hK.out _ _ (F.out.c2 (i := 0) rfl).1 (fun hHeld => ?_)
      clear hK K
      refine norm_ (a' := ?_) ?_ ?_
      rotate_left
      ·
       show Act.put _ (some 8) _ = _
       simp only [Act.put, sa_', sz_', sc_', i64_w, i32_w]
       rfl
      refine one_ (i := 8) (N := none) #[true, true, true, true, true, true, true, true, true] rfl rfl (one_of HT_.out (by kernel_rfl)) (by decide) (fun K hK => ?_)
      obtain ⟨gnc0, gnc1, gnf0, gnf1⟩ := F.out.c2 (i := 1) rfl
      refine skip_ (w1 := put2 w7 gn (.int .i64 (wrap64 (Int.tdiv n g))) (.int .i64 (wrap64 (Int.tdiv d g)))) (by rfl) rfl ?_ ?_
      ·
       unfold put2
       go_simp
       try rfl
      clear gnc0 gnc1 gnf0 gnf1
      have F1 := sk_' (F.out.put2 (i := 1) rfl (.int .i64 (wrap64 (Int.tdiv n g))) (.int .i64 (wrap64 (Int.tdiv d g))))
      clear F
      generalize put2 w7 gn (.int .i64 (wrap64 (Int.tdiv n g))) (.int .i64 (wrap64 (Int.tdiv d g))) = w8 at F1 ⊢
      have F := F1
      clear F1
      clear hHeld
      refine hK.out _ _ (F.out.c2 (i := 0) rfl).1 (fun hHeld => ?_)
      clear hK K
      clear hHeld
      refine done_ (done_of HT_.out (by kernel_rfl)) ?_
      have hne := F.out.apart (i := 0) (j := 1) rfl rfl (by decide)
      have H := HA.out
      clear HA
      obtain ⟨gnc0, gnc1, gnf0, gnf1⟩ := F.out.c2 (i := 1) rfl
      cases t9 with
      | false =>
       simp only [Bool.false_eq_true, if_false, Option.some.injEq, Prod.mk.injEq] at H
       obtain ⟨rfl, rfl, rfl⟩ := H
       go_wp2_with (first
        | (go_at_call 146; (with_reducible refine (spec_IsRatio.calls k3 (wrap64 (Int.tdiv n g)) (wrap64 (Int.tdiv d g)) false _ A4.out).mono ?_); rintro e w9 ⟨rfl, hb⟩; have F1 := sk_' (F.out.step hb); clear gnc0 gnc1 gnf0 gnf1; clear F hb; have F := F1; clear F1; obtain ⟨grc0, grc1, grf0, grf1⟩ := F.out.c2 (i := 0) rfl; obtain ⟨gnc0, gnc1, gnf0, gnf1⟩ := F.out.c2 (i := 1) rfl))
       refine bodyPost_ret (results_ct rfl _ _ gr 95 #[.int .i64 0, .int .i64 0] (0, 0) _ rfl ((F.out.put2 (i := 0) rfl (.int .i64 0) (.int .i64 0)).get (i := 0) (by rfl)) hu rfl (by kernel_rfl)) rfl ?_
       exact ⟨rfl, (F.out.put2 (i := 0) rfl (.int .i64 0) (.int .i64 0)).below⟩
      | true =>
       simp only [if_true, Option.some.injEq, Prod.mk.injEq] at H
       obtain ⟨rfl, rfl, rfl⟩ := H
       go_wp2_with (first
        | (go_at_call 146; (with_reducible refine (spec_IsRatio.calls k3 (wrap64 (Int.tdiv n g)) (wrap64 (Int.tdiv d g)) true _ A4.out).mono ?_); rintro e w9 ⟨rfl, hb⟩; have F1 := sk_' (F.out.step hb); clear gnc0 gnc1 gnf0 gnf1; clear F hb; have F := F1; clear F1; obtain ⟨grc0, grc1, grf0, grf1⟩ := F.out.c2 (i := 0) rfl; obtain ⟨gnc0, gnc1, gnf0, gnf1⟩ := F.out.c2 (i := 1) rfl))
       refine bodyPost_ret (results_ct rfl _ _ gr 95 #[.int .i64 (wrap64 (Int.tdiv n g)), .int .i64 (wrap64 (Int.tdiv d g))] (0, 0) _ rfl ((F.out.put2 (i := 0) rfl (.int .i64 (wrap64 (Int.tdiv n g))) (.int .i64 (wrap64 (Int.tdiv d g)))).get (i := 0) (by rfl)) hu rfl (by kernel_rfl)) rfl ?_
       exact ⟨rfl, (F.out.put2 (i := 0) rfl (.int .i64 (wrap64 (Int.tdiv n g))) (.int .i64 (wrap64 (Int.tdiv d g)))).below⟩
end Go.Proofs.Ytbhlmeghbfmgiaa.F

namespace Go.Proofs.Ytbhlmeghbfmgiaa.F
open Go.RowKit Go.Proofs.YtbhlmeghbfmgiaaW.PrintWords Go.Proofs.YtbhlmeghbfmgiaaW.PrintLast Go.Proofs.YtbhlmeghbfmgiaaW.PrintMore
attribute [local go_sem] max2_int min2_int max_two min_two max_three min_three max_four min_four
set_option linter.unusedVariables false
set_option linter.unusedSimpArgs false
def spec_IsTempo.l0 : Nat → List (S151) → Int → Option (Bool)
 | 0, _, _ => none
 | k + 1, x0, x3 => if x3 < (x0.length : Int) then (if 0 ≤ x3 then ((spec_l1In.f ((rd_T151 x0 x3).f1) 20 300).bind fun t688 => (if t688 = true then ((spec_l1In.f ((rd_T151 x0 x3).f0) 0 2000).bind fun t690 => (if t690 = true then (if x3 = 0 then (if ((rd_T151 x0 x3).f0) = 0 then (if x3 > 0 then (if 0 ≤ (wrap64 (x3 - 1)) then (if (wrap64 (x3 - 1)) < (x0.length : Int) then (if ((rd_T151 x0 (wrap64 (x3 - 1))).f0) ≥ ((rd_T151 x0 x3).f0) then (some false) else (spec_IsTempo.l0 k x0 (wrap64 (x3 + 1)))) else (none)) else (none)) else (spec_IsTempo.l0 k x0 (wrap64 (x3 + 1)))) else (some false)) else (if x3 > 0 then (if 0 ≤ (wrap64 (x3 - 1)) then (if (wrap64 (x3 - 1)) < (x0.length : Int) then (if ((rd_T151 x0 (wrap64 (x3 - 1))).f0) ≥ ((rd_T151 x0 x3).f0) then (some false) else (spec_IsTempo.l0 k x0 (wrap64 (x3 + 1)))) else (none)) else (none)) else (spec_IsTempo.l0 k x0 (wrap64 (x3 + 1))))) else (some false))) else (some false))) else (none)) else ((spec_l1In.f (x0.length : Int) 1 8).bind fun t686 => (some t686))
def spec_IsTempo.f (k : Nat) (l0 : List (S151)) : Option (Bool) := spec_IsTempo.l0 k l0 0
def spec_IsTempo.T4 : Bool × List (List Nat × List Nat) := (true, [([], []), ([], []), ([0, 1], [0, 1]), ([2], [2]), ([3], [3]), ([4], [4]), ([5], [5]), ([6, 5], [6]), ([7], [7]), ([7], [7]), ([8, 9, 7], [7, 8, 9]), ([10, 7], [7, 10]), ([11, 7], [7, 11]), ([12, 7, 7], [7, 12]), ([13, 7], [7, 13]), ([7, 14], [7, 14]), ([15, 13], [15]), ([16], [16]), ([17, 16], [16, 17]), ([18, 16, 16], [16, 18]), ([19], [19]), ([19], [19]), ([20, 21, 19], [19, 20, 21]), ([22, 19], [19, 22]), ([23, 19], [19, 23]), ([24, 19], [19, 24]), ([19, 25, 16], [16, 19, 25]), ([16, 26], [16, 26]), ([27, 19], [27]), ([28], [28]), ([29, 28], [28, 29]), ([30, 28, 28], [28, 30]), ([31], [31]), ([31], [31]), ([33, 31], [31, 33]), ([32, 34, 31], [31, 32, 34]), ([35, 31], [31, 35]), ([36, 31], [31, 36]), ([31], [31]), ([31], [31]), ([38, 39, 31], [31, 38, 39]), ([40, 31], [31, 40]), ([41, 31], [31, 41]), ([37, 42, 31], [31, 37, 42]), ([31, 43, 28], [28, 31, 43]), ([28, 44], [28, 44])])
def spec_IsTempo.B4 : List Nat := [0, 0, 3, 7, 15, 31, 63, 127, 255, 255, 1023, 2047, 4095, 8191, 16383, 32767, 65535, 131071, 262143, 524287, 1048575, 1048575, 4194303, 8388607, 16777215, 33554431, 67108863, 134217727, 268435455, 536870911, 1073741823, 2147483647, 4294967295, 4294967295, 12884901887, 34359738367, 68719476735, 137438953471, 4294967295, 4294967295, 828928688127, 1928440315903, 4127463571455, 8796093022207, 17592186044415, 35184372088831]
theorem spec_IsTempo.tab4 : rtab .any (opsOf Try.f143 4) = spec_IsTempo.T4 := by kernel_rfl
theorem spec_IsTempo.bits4 : waitsOk spec_IsTempo.T4.2 spec_IsTempo.B4 = true := by kernel_rfl
set_option maxHeartbeats 8000000 in
set_option maxRecDepth 100000 in
theorem spec_IsTempo.calls (k : Nat) (A0 : Option Addr) (c0 : Nat) (l0 : List (S151)) (r : Bool) (w : World) (hr0 : Kd.C k151 w A0 l0.length l0) (hc0 : l0.length ≤ c0) (h : spec_IsTempo.f k l0 = some r) :
  Calls Try.prog 143 #[.slice A0 l0.length c0] w fun e w' => e = .returned (.bool r) ∧ Below w.heap.size w w' := by
 have HR0 := sk_' hr0
 have HC0 := sk_' hc0
 clear hr0 hc0
 have F := sk_' (Fr.of (Below.refl w.heap.size w))
 have H := h
 clear h
 unfold spec_IsTempo.f at H
 have HA := sk_' H
 clear H
 go_enter Try.func143, Try.ntmps143
 go_wp2
 go_loopg [3] k (fun kq vx w' => ∃ (x : Int), vx = .int .i64 x ∧ Aside0 (spec_IsTempo.l0 kq l0 x = some r) ∧ Aside0 (Fr w w' []))
 case atStart => exact ⟨0, (by first | rfl | (simp; done) | (simp [*]; done)), HA, F⟩
 case round =>
  clear HA F
  obtain ⟨x, rfl, HA, F⟩ := hrel
  cases gk with
  | zero => exact absurd HA.out (by simp [spec_IsTempo.l0])
  | succ k2 =>
   have H := HA.out
   clear HA
   simp only [spec_IsTempo.l0] at H
   by_cases c1 : x < (l0.length : Int)
   ·
    rw [if_pos c1] at H
    by_cases c2 : 0 ≤ x
    ·
     rw [if_pos c2] at H
     obtain ⟨ad, e, hx0, hx1⟩ := at_T151 HR0.out x c2 c1
     cases e
     have X0 := sk_' hx0
     have X1 := sk_' hx1
     clear hx0 hx1
     generalize (rd_T151 l0 x).f0 = p at H X0
     generalize (rd_T151 l0 x).f1 = q at H X1
     have cb1 : decide (x < (l0.length : Int)) = true := decide_eq_true c1
     replace c1 := eq_true c1
     have c2t := eq_true c2
     go_wp2
     replace H := bs_' H
     obtain ⟨t2, B_, H⟩ := H
     have A2 := sk_' B_
     clear B_
     cases t2 with
     | false =>
      simp only [Bool.false_eq_true, if_false] at H
      have hx0 := (F.out.below.cell (bq_' w _ X0.out)).trans X0.out
      have hx1 := (F.out.below.cell (bq_' w _ X1.out)).trans X1.out
      go_quiet ((first | (go_at_call 110; apply Calls.quiet_of; ((with_reducible refine (spec_l1In.calls q 20 300 false _ A2.out).mono ?_); exact fun _ _ h_ => ⟨h_.1, h_.2.out⟩))))
      have F1 := sk_' (F.out.step (pn_' (Below.refl _ wr) nq))
      clear hx0 hx1
      clear F
      generalize wr.drewN nq = w5 at F1 ⊢
      have F := F1
      clear F1
      obtain rfl := Option.some.inj H
      go_wp2
      go_ret
      exact ⟨rfl, F.out.below⟩
     | true =>
      simp only [if_true] at H
      replace H := bs_' H
      obtain ⟨t3, B_, H⟩ := H
      have A3 := sk_' B_
      clear B_
      cases t3 with
      | false =>
       simp only [Bool.false_eq_true, if_false] at H
       have hx0 := (F.out.below.cell (bq_' w _ X0.out)).trans X0.out
       have hx1 := (F.out.below.cell (bq_' w _ X1.out)).trans X1.out
       go_quiet ((first | (go_at_call 110; apply Calls.quiet_of; ((with_reducible refine (spec_l1In.calls q 20 300 true _ A2.out).mono ?_); exact fun _ _ h_ => ⟨h_.1, h_.2.out⟩)) | (go_at_call 110; apply Calls.quiet_of; ((with_reducible refine (spec_l1In.calls p 0 2000 false _ A3.out).mono ?_); exact fun _ _ h_ => ⟨h_.1, h_.2.out⟩))))
       have F1 := sk_' (F.out.step (pn_' (Below.refl _ wr) nq))
       clear hx0 hx1
       clear F
       generalize wr.drewN nq = w5 at F1 ⊢
       have F := F1
       clear F1
       obtain rfl := Option.some.inj H
       go_wp2
       go_ret
       exact ⟨rfl, F.out.below⟩
      | true =>
       simp only [if_true] at H
       by_cases d1 : x = 0
       ·
        rw [if_pos d1] at H
        have d1a : (x == 0) = true := beq_iff_eq.mpr d1
        have d1b : (x != 0) = false := bne_eq_false_iff_eq.mpr d1
        have d3b : decide (0 < x) = false := decide_eq_false (by omega)
        by_cases d2 : p = 0
        ·
         rw [if_pos d2, if_neg (show ¬ x > 0 by omega)] at H
         have d2a : (p == 0) = true := beq_iff_eq.mpr d2
         have d2b : (p != 0) = false := bne_eq_false_iff_eq.mpr d2
         clear d1 d2
         have hx0 := (F.out.below.cell (bq_' w _ X0.out)).trans X0.out
         have hx1 := (F.out.below.cell (bq_' w _ X1.out)).trans X1.out
         go_quiet ((first | (go_at_call 110; apply Calls.quiet_of; ((with_reducible refine (spec_l1In.calls q 20 300 true _ A2.out).mono ?_); exact fun _ _ h_ => ⟨h_.1, h_.2.out⟩)) | (go_at_call 110; apply Calls.quiet_of; ((with_reducible refine (spec_l1In.calls p 0 2000 true _ A3.out).mono ?_); exact fun _ _ h_ => ⟨h_.1, h_.2.out⟩))))
         have F1 := sk_' (F.out.step (pn_' (Below.refl _ wr) nq))
         clear hx0 hx1
         clear F
         generalize wr.drewN nq = w5 at F1 ⊢
         have F := F1
         clear F1
         have HA := sk_' H
         clear H
         go_wp2
         go_roundg k2
         case measure => omega
         case rel => exact ⟨wrap64 (x + 1), (by first | rfl | (simp; done) | (simp [*]; done)), HA, ⟨F.out.take 0⟩⟩
        rw [if_neg d2] at H
        have d2a : (p == 0) = false := beq_eq_false_iff_ne.mpr d2
        have d2b : (p != 0) = true := bne_iff_ne.mpr d2
        clear d1 d2
        have hx0 := (F.out.below.cell (bq_' w _ X0.out)).trans X0.out
        have hx1 := (F.out.below.cell (bq_' w _ X1.out)).trans X1.out
        go_quiet ((first | (go_at_call 110; apply Calls.quiet_of; ((with_reducible refine (spec_l1In.calls q 20 300 true _ A2.out).mono ?_); exact fun _ _ h_ => ⟨h_.1, h_.2.out⟩)) | (go_at_call 110; apply Calls.quiet_of; ((with_reducible refine (spec_l1In.calls p 0 2000 true _ A3.out).mono ?_); exact fun _ _ h_ => ⟨h_.1, h_.2.out⟩))))
        have F1 := sk_' (F.out.step (pn_' (Below.refl _ wr) nq))
        clear hx0 hx1
        clear F
        generalize wr.drewN nq = w5 at F1 ⊢
        have F := F1
        clear F1
        obtain rfl := Option.some.inj H
        go_wp2
        go_ret
        exact ⟨rfl, F.out.below⟩
       rw [if_neg d1, if_pos (show x > 0 by omega)] at H
       have d1a : (x == 0) = false := beq_eq_false_iff_ne.mpr d1
       have d1b : (x != 0) = true := bne_iff_ne.mpr d1
       have d3b : decide (0 < x) = true := decide_eq_true (by omega)
       clear d1
       obtain ⟨ji, hji⟩ : ∃ j_ : Int, wrap64 (x - 1) = j_ := ⟨_, rfl⟩
       have hjw : IntKind.i64.wrap (x - 1) = ji := (i64_w _).trans hji
       rw [hji] at H
       by_cases e1 : 0 ≤ ji
       ·
        rw [if_pos e1] at H
        by_cases e2 : ji < (l0.length : Int)
        ·
         rw [if_pos e2] at H
         obtain ⟨ad2, e, hy0, hy1⟩ := at_T151 HR0.out ji e1 e2
         obtain rfl : ad = ad2 := by injection e
         clear hy1 e hji
         have Y0 := sk_' hy0
         clear hy0
         generalize (rd_T151 l0 ji).f0 = p2 at H Y0
         replace e1 := eq_true e1
         replace e2 := eq_true e2
         by_cases d5 : p2 ≥ p
         ·
          rw [if_pos d5] at H
          have d5b : decide (p ≤ p2) = true := decide_eq_true d5
          clear d5
          have hx0 := (F.out.below.cell (bq_' w _ X0.out)).trans X0.out
          have hx1 := (F.out.below.cell (bq_' w _ X1.out)).trans X1.out
          have hy0 := (F.out.below.cell (bq_' w _ Y0.out)).trans Y0.out
          go_quiet ((first | (go_at_call 110; apply Calls.quiet_of; ((with_reducible refine (spec_l1In.calls q 20 300 true _ A2.out).mono ?_); exact fun _ _ h_ => ⟨h_.1, h_.2.out⟩)) | (go_at_call 110; apply Calls.quiet_of; ((with_reducible refine (spec_l1In.calls p 0 2000 true _ A3.out).mono ?_); exact fun _ _ h_ => ⟨h_.1, h_.2.out⟩))))
          have F1 := sk_' (F.out.step (pn_' (Below.refl _ wr) nq))
          clear hx0 hx1 hy0
          clear F
          generalize wr.drewN nq = w5 at F1 ⊢
          have F := F1
          clear F1
          obtain rfl := Option.some.inj H
          go_wp2
          go_ret
          exact ⟨rfl, F.out.below⟩
         rw [if_neg d5] at H
         have d5b : decide (p ≤ p2) = false := decide_eq_false d5
         clear d5
         have hx0 := (F.out.below.cell (bq_' w _ X0.out)).trans X0.out
         have hx1 := (F.out.below.cell (bq_' w _ X1.out)).trans X1.out
         have hy0 := (F.out.below.cell (bq_' w _ Y0.out)).trans Y0.out
         go_quiet ((first | (go_at_call 110; apply Calls.quiet_of; ((with_reducible refine (spec_l1In.calls q 20 300 true _ A2.out).mono ?_); exact fun _ _ h_ => ⟨h_.1, h_.2.out⟩)) | (go_at_call 110; apply Calls.quiet_of; ((with_reducible refine (spec_l1In.calls p 0 2000 true _ A3.out).mono ?_); exact fun _ _ h_ => ⟨h_.1, h_.2.out⟩))))
         have F1 := sk_' (F.out.step (pn_' (Below.refl _ wr) nq))
         clear hx0 hx1 hy0
         clear F
         generalize wr.drewN nq = w5 at F1 ⊢
         have F := F1
         clear F1
         have HA := sk_' H
         clear H
         go_wp2
         go_roundg k2
         case measure => omega
         case rel => exact ⟨wrap64 (x + 1), (by first | rfl | (simp; done) | (simp [*]; done)), HA, ⟨F.out.take 0⟩⟩
        rw [if_neg e2] at H
        exact absurd H (by simp)
       rw [if_neg e1] at H
       exact absurd H (by simp)
    rw [if_neg c2] at H
    exact absurd H (by simp)
   rw [if_neg c1] at H
   have cb1 : decide (x < (l0.length : Int)) = false := decide_eq_false c1
   clear c1
   replace H := bs_' H
   obtain ⟨t2, B_, H⟩ := H
   have A2 := sk_' B_
   clear B_
   obtain rfl := Option.some.inj H
   go_wp2_with (first
    | (go_at_call 110; (with_reducible refine (spec_l1In.calls (l0.length : Int) 1 8 t2 _ A2.out).mono ?_); rintro e w6 ⟨rfl, hb⟩; have F1 := sk_' (F.out.drawn hb); clear F hb; have F := F1; clear F1))
   go_ret
   exact ⟨rfl, F.out.below⟩
end Go.Proofs.Ytbhlmeghbfmgiaa.F

namespace Go.Proofs.Ytbhlmeghbfmgiaa.F
open Go.RowKit Go.Proofs.YtbhlmeghbfmgiaaW.PrintWords Go.Proofs.YtbhlmeghbfmgiaaW.PrintLast Go.Proofs.YtbhlmeghbfmgiaaW.PrintMore
attribute [local go_sem] max2_int min2_int max_two min_two max_three min_three max_four min_four
set_option linter.unusedVariables false
set_option linter.unusedSimpArgs false
def spec_Min.f (a0 : Int) (a1 : Int) : Option (Int) := if a1 < a0 then (some a1) else (some a0)
set_option maxHeartbeats 8000000 in
set_option maxRecDepth 100000 in
theorem spec_Min.calls (a0 : Int) (a1 : Int) (r : Int) (w : World) (h : spec_Min.f a0 a1 = some r) :
  Calls Try.prog 144 #[.int .i64 a0, .int .i64 a1] w fun e w' => e = .returned (.int .i64 r) ∧ Drawn0 w w' := by
 have H : (if a1 < a0 then (some a1) else (some a0)) = some r := h
 clear h
 by_cases c3 : a1 < a0
 ·
  rw [if_pos c3] at H
  have c3b0 : decide (a1 < a0) = true := decide_eq_true c3
  clear c3
  obtain rfl := Option.some.inj H
  go_enter Try.func144, Try.ntmps144
  go_wp2
  go_ret
  exact ⟨by first | rfl | (simp; done) | (simp [*]; done), by repeat (first | exact Drawn0.refl _ | apply Drawn0.step)⟩
 rw [if_neg c3] at H
 have c3b0 : decide (a1 < a0) = false := decide_eq_false c3
 clear c3
 obtain rfl := Option.some.inj H
 go_enter Try.func144, Try.ntmps144
 go_wp2
 go_ret
 exact ⟨by first | rfl | (simp; done) | (simp [*]; done), by repeat (first | exact Drawn0.refl _ | apply Drawn0.step)⟩
end Go.Proofs.Ytbhlmeghbfmgiaa.F

namespace Go.Proofs.Ytbhlmeghbfmgiaa.F
open Go.RowKit Go.Proofs.YtbhlmeghbfmgiaaW.PrintWords Go.Proofs.YtbhlmeghbfmgiaaW.PrintLast Go.Proofs.YtbhlmeghbfmgiaaW.PrintMore
attribute [local go_sem] max2_int min2_int max_two min_two max_three min_three max_four min_four
set_option linter.unusedVariables false
set_option linter.unusedSimpArgs false
def spec_AddRatio.j0 : Nat → Bool → Int → Int → Int → Int → Option (Int × Int × Bool)
 | 0, _, _, _, _, _ => none
 | k + 1, x18, x697000, x697001, x698000, x698001 => if x18 = true then (some (0, 0, false)) else ((spec_l4Gcd.f k x697001 x698001).bind fun t701 => (if t701 = 0 then (none) else ((spec_l4Abs.f (wrap64 ((wrap64 (x697000 * (wrap64 (Int.tdiv x698001 t701)))) + (wrap64 (x698000 * (wrap64 (Int.tdiv x697001 t701))))))).bind fun t702 => ((spec_l4Gcd.f k t702 (wrap64 ((wrap64 (Int.tdiv x697001 t701)) * x698001))).bind fun t703 => (if t703 = 0 then (none) else ((spec_IsRatio.f k (wrap64 (Int.tdiv (wrap64 ((wrap64 (x697000 * (wrap64 (Int.tdiv x698001 t701)))) + (wrap64 (x698000 * (wrap64 (Int.tdiv x697001 t701)))))) t703)) (wrap64 (Int.tdiv (wrap64 ((wrap64 (Int.tdiv x697001 t701)) * x698001)) t703))).bind fun t705 => (if t705 = true then (some (wrap64 (Int.tdiv (wrap64 ((wrap64 (x697000 * (wrap64 (Int.tdiv x698001 t701)))) + (wrap64 (x698000 * (wrap64 (Int.tdiv x697001 t701)))))) t703), wrap64 (Int.tdiv (wrap64 ((wrap64 (Int.tdiv x697001 t701)) * x698001)) t703), true)) else (some (0, 0, false)))))))))
def spec_AddRatio.f (k : Nat) (a0_0 : Int) (a0_1 : Int) (a1_0 : Int) (a1_1 : Int) : Option (Int × Int × Bool) := (spec_IsRatio.f k a0_0 a0_1).bind fun t699 => (if t699 = true then ((spec_IsRatio.f k a1_0 a1_1).bind fun t700 => (spec_AddRatio.j0 k (!t700) a0_0 a0_1 a1_0 a1_1)) else (spec_AddRatio.j0 k true a0_0 a0_1 a1_0 a1_1))
def spec_AddRatio.T4 : Bool × List (List Nat × List Nat) := (true, [([], []), ([0], [0]), ([], []), ([2], [2]), ([], []), ([3, 4], [3, 4]), ([1, 5], [1, 5]), ([], []), ([7], [7]), ([], []), ([9], [9]), ([], []), ([10, 11], [10, 11]), ([8, 12], [8, 12]), ([6, 13], [6, 13]), ([14, 0, 1, 2, 3, 4, 5, 6, 7, 8, 9, 10, 11, 12, 13, 14], [14])])
def spec_AddRatio.B4 : List Nat := [0, 1, 0, 4, 0, 28, 63, 0, 128, 0, 512, 0, 3584, 8064, 16383, 32767]
theorem spec_AddRatio.tab4 : rtab .any (opsOf Try.f145 4) = spec_AddRatio.T4 := by kernel_rfl
theorem spec_AddRatio.bits4 : waitsOk spec_AddRatio.T4.2 spec_AddRatio.B4 = true := by kernel_rfl
def spec_AddRatio.T7 : Bool × List (List Nat × List Nat) := (true, [([], []), ([], []), ([0, 1], [0, 1]), ([], []), ([], []), ([3, 4], [3, 4]), ([2, 5], [2, 5]), ([], []), ([7, 6, 0, 1, 2, 3, 4, 5, 6, 7], [6, 7])])
def spec_AddRatio.B7 : List Nat := [0, 0, 3, 0, 0, 24, 63, 0, 255]
theorem spec_AddRatio.tab7 : rtab .any (opsOf Try.f145 7) = spec_AddRatio.T7 := by kernel_rfl
theorem spec_AddRatio.bits7 : waitsOk spec_AddRatio.T7.2 spec_AddRatio.B7 = true := by kernel_rfl
set_option maxHeartbeats 8000000 in
set_option maxRecDepth 100000 in
theorem spec_AddRatio.calls (k : Nat) (a0_0 : Int) (a0_1 : Int) (a1_0 : Int) (a1_1 : Int) (r1 : Int) (r2 : Int) (r3 : Bool) (w : World) (h : spec_AddRatio.f k a0_0 a0_1 a1_0 a1_1 = some (r1, r2, r3)) :
  Calls Try.prog 145 #[.agg #[.int .i64 a0_0, .int .i64 a0_1], .agg #[.int .i64 a1_0, .int .i64 a1_1]] w fun e w' => e = .returned (.tuple #[.agg #[.int .i64 r1, .int .i64 r2], .bool r3]) ∧ Below w.heap.size w w' := by
 have hu := Try.underlying95
 have F := sk_' (Fr.of (Below.refl w.heap.size w))
 have H := h
 clear h
 unfold spec_AddRatio.f at H
 replace H := bs_' H
 obtain ⟨t1, B_, H⟩ := H
 have A1 := sk_' B_
 clear B_
 have HA := sk_' H
 clear H
 go_enter Try.func145, Try.ntmps145
 go_upto_region 1 with (first
  | ((with_reducible refine gate_dst (N := 2) rfl ?_); refine box_event ?hg (N := 2) ?hd (cs := #[.int .i64 a0_0, .int .i64 a0_1]) (t := 95) ?hr ?_; (case hd => rfl); (case hg => rfl); (case hr => first | (go_simp; done) | (go_simp; rfl)); intro ga hg w1 hbox hb; have F1 := sk_' (F.out.push hg hbox hb); clear F hbox hb hg; have F := F1; clear F1)
  | ((with_reducible refine gate_dst (N := 3) rfl ?_); refine box_event ?hg (N := 3) ?hd (cs := #[.int .i64 a1_0, .int .i64 a1_1]) (t := 95) ?hr ?_; (case hd => rfl); (case hg => rfl); (case hr => first | (go_simp; done) | (go_simp; rfl)); intro gb hg w2 hbox hb; have F1 := sk_' (F.out.push hg hbox hb); clear F hbox hb hg; have F := F1; clear F1)
  | ((with_reducible refine gate_dst (N := 4) rfl ?_); refine box_event ?hg (N := 4) ?hd (cs := #[.int .i64 0, .int .i64 0]) (t := 95) ?hr ?_; (case hd => rfl); (case hg => rfl); (case hr => first | (go_simp; done) | (go_simp; rfl)); intro gr hg w3 hbox hb; have F1 := sk_' (F.out.push hg hbox hb); clear F hbox hb hg; have F := F1; clear F1; obtain ⟨gac0, gac1, gaf0, gaf1⟩ := F.out.c2 (i := 0) rfl; obtain ⟨gbc0, gbc1, gbf0, gbf1⟩ := F.out.c2 (i := 1) rfl))
 (try simp only [Act.put, sa_', sz_', sc_'])
 go_cut [18] (fun vc wc => ∃ (kq : Nat) (b : Bool), vc = .bool b ∧ Aside0 (spec_AddRatio.j0 kq b a0_0 a0_1 a1_0 a1_1 = some (r1, r2, r3)) ∧ Aside0 (Fr w wc [(ga, .cells #[.int .i64 a0_0, .int .i64 a0_1] 95 (0, 0)), (gb, .cells #[.int .i64 a1_0, .int .i64 a1_1] 95 (0, 0)), (gr, .cells #[.int .i64 0, .int .i64 0] 95 (0, 0))]))
 case first =>
  have H := HA.out
  clear HA
  cases t1 with
  | false =>
   simp only [Bool.false_eq_true, if_false] at H
   go_wp2_with (first
    | (go_at_call 146; (with_reducible refine (spec_IsRatio.calls k a0_0 a0_1 false _ A1.out).mono ?_); rintro e w4 ⟨rfl, hb⟩; have F1 := sk_' (F.out.step hb); clear gac0 gac1 gaf0 gaf1 gbc0 gbc1 gbf0 gbf1; clear F hb; have F := F1; clear F1; obtain ⟨gbc0, gbc1, gbf0, gbf1⟩ := F.out.c2 (i := 1) rfl))
   go_meet
   case rel => exact ⟨k, true, (by first | rfl | (simp; done) | (simp [*]; done)), ⟨H⟩, F⟩
  | true =>
   simp only [if_true] at H
   replace H := bs_' H
   obtain ⟨t2, B_, H⟩ := H
   have A2 := sk_' B_
   clear B_
   have HA := sk_' H
   clear H
   cases t2
   all_goals
    go_wp2_with (first
     | (go_at_call 146; (with_reducible refine (spec_IsRatio.calls k a0_0 a0_1 true _ A1.out).mono ?_); rintro e w4 ⟨rfl, hb⟩; have F1 := sk_' (F.out.step hb); clear gac0 gac1 gaf0 gaf1 gbc0 gbc1 gbf0 gbf1; clear F hb; have F := F1; clear F1; obtain ⟨gbc0, gbc1, gbf0, gbf1⟩ := F.out.c2 (i := 1) rfl)
     | (go_at_call 146; (with_reducible refine (spec_IsRatio.calls k a1_0 a1_1 _ _ A2.out).mono ?_); rintro e w5 ⟨rfl, hb⟩; have F1 := sk_' (F.out.step hb); clear gbc0 gbc1 gbf0 gbf1; clear F hb; have F := F1; clear F1))
    go_meet
    case rel => exact ⟨k, _, (by first | rfl | (simp; done) | (simp [*]; done)), HA, F⟩
 case rest =>
  clear HA F A1 gac0 gac1 gaf0 gaf1 gbc0 gbc1 gbf0 gbf1
  obtain ⟨kq, b, rfl, HA, F⟩ := hcut
  cases kq with
  | zero => exact absurd HA.out (by simp [spec_AddRatio.j0])
  | succ kj =>
   have H := HA.out
   clear HA
   simp only [spec_AddRatio.j0] at H
   cases b with
   | true =>
    simp only [if_true, Option.some.injEq, Prod.mk.injEq] at H
    obtain ⟨rfl, rfl, rfl⟩ := H
    obtain ⟨grc0, grc1, grf0, grf1⟩ := F.out.c2 (i := 2) rfl
    go_wp2
    refine bodyPost_ret (results_ct rfl _ _ gr 95 #[.int .i64 0, .int .i64 0] (0, 0) _ rfl ((F.out.put2 (i := 2) rfl (.int .i64 0) (.int .i64 0)).get (i := 2) (by rfl)) hu rfl (by kernel_rfl)) rfl ?_
    exact ⟨rfl, (F.out.put2 (i := 2) rfl (.int .i64 0) (.int .i64 0)).below⟩
   | false =>
    simp only [Bool.false_eq_true, if_false] at H
    replace H := bs_' H
    obtain ⟨g1, B_, H⟩ := H
    have A2 := sk_' B_
    clear B_
    by_cases z1 : g1 = 0
    ·
     rw [if_pos z1] at H
     exact absurd H (by simp)
    rw [if_neg z1] at H
    have z1a : (g1 == 0) = false := beq_eq_false_iff_ne.mpr z1
    have z1b : (g1 != 0) = true := bne_iff_ne.mpr z1
    replace z1 := eq_false z1
    replace H := bs_' H
    obtain ⟨u1, B_, H⟩ := H
    have A3 := sk_' B_
    clear B_
    replace H := bs_' H
    obtain ⟨g2, B_, H⟩ := H
    have A4 := sk_' B_
    clear B_
    by_cases z2 : g2 = 0
    ·
     rw [if_pos z2] at H
     exact absurd H (by simp)
    rw [if_neg z2] at H
    have z2a : (g2 == 0) = false := beq_eq_false_iff_ne.mpr z2
    have z2b : (g2 != 0) = true := bne_iff_ne.mpr z2
    replace z2 := eq_false z2
    replace H := bs_' H
    obtain ⟨t9, B_, H⟩ := H
    have A5 := sk_' B_
    clear B_
    have HA := sk_' H
    clear H
    obtain ⟨gac0, gac1, gaf0, gaf1⟩ := F.out.c2 (i := 0) rfl
    obtain ⟨gbc0, gbc1, gbf0, gbf1⟩ := F.out.c2 (i := 1) rfl
    go_wp2_with (first
     | (go_at_call 155; (with_reducible refine (spec_l4Gcd.calls kj a0_1 a1_1 g1 _ A2.out).mono ?_); rintro e w5 ⟨rfl, hb⟩; have F1 := sk_' (F.out.drawn hb); clear gac0 gac1 gaf0 gaf1 gbc0 gbc1 gbf0 gbf1; clear F hb; have F := F1; clear F1))
    obtain ⟨gac0, gac1, gaf0, gaf1⟩ := F.out.c2 (i := 0) rfl
    obtain ⟨gbc0, gbc1, gbf0, gbf1⟩ := F.out.c2 (i := 1) rfl
    go_quiet (fail)
    have F1 := sk_' (F.out.step (pn_' (Below.refl _ w5) nq))
    clear gac0 gac1 gaf0 gaf1 gbc0 gbc1 gbf0 gbf1
    clear F
    generalize w5.drewN nq = w6 at F1 ⊢
    have F := F1
    clear F1
    go_wp2
    obtain ⟨gac0, gac1, gaf0, gaf1⟩ := F.out.c2 (i := 0) rfl
    obtain ⟨gbc0, gbc1, gbf0, gbf1⟩ := F.out.c2 (i := 1) rfl
    go_quiet (fail)
    have F1 := sk_' (F.out.step (pn_' (Below.refl _ w6) nq))
    clear gac0 gac1 gaf0 gaf1 gbc0 gbc1 gbf0 gbf1
    clear F
    generalize w6.drewN nq = w7 at F1 ⊢
    have F := F1
    clear F1
    go_wp2_with (first
     | (go_at_call 156; (with_reducible refine (spec_l4Abs.calls (wrap64 ((wrap64 (a0_0 * (wrap64 (Int.tdiv a1_1 g1)))) + (wrap64 (a1_0 * (wrap64 (Int.tdiv a0_1 g1)))))) u1 _ A3.out).mono ?_); rintro e w8 ⟨rfl, hb⟩; have F1 := sk_' (F.out.drawn hb); clear F hb; have F := F1; clear F1)
     | (go_at_call 155; (with_reducible refine (spec_l4Gcd.calls kj u1 (wrap64 ((wrap64 (Int.tdiv a0_1 g1)) * a1_1)) g2 _ A4.out).mono ?_); rintro e w9 ⟨rfl, hb⟩; have F1 := sk_' (F.out.drawn hb); clear F hb; have F := F1; clear F1))
    have F1 := sk_' F.out.drew
    clear F
    have F := F1
    clear F1
    refine start_ (n := 9) (S := fun w' => w'.cell? ⟨ga, 0, none⟩ = some (.int .i64 a0_0)) (ds := []) #[false, false, false, false, false, false, false, false, false] (by kernel_rfl) rfl rfl (F.out.c2 (i := 0) rfl).1 (fun hHeld => ?_); refine with_tabW spec_AddRatio.tab7 spec_AddRatio.bits7 (fun HT_ HW_ => ?_)
    generalize w9.drew = w10 at F hHeld ⊢
    refine pure_ (i := 0) (N := some 51) (v := ?_) (a' := ?_) #[true, false, false, false, false, false, false, false, false] rfl rfl (any_of HT_.out (by kernel_rfl)) (fun _ _ _ h => h) (Or.inl ⟨by rfl, ?_⟩) ?_ ?_
    rotate_left
    ·
     intro w'
     go_simp
     with_reducible rfl
    rotate_left
    ·
     simp only [Act.put, sa_', sz_', sc_', i64_w, i32_w]
     rfl
    refine pure_ (i := 1) (N := some 52) (v := ?_) (a' := ?_) #[true, true, false, false, false, false, false, false, false] rfl rfl (any_of HT_.out (by kernel_rfl)) (fun _ _ _ h => h) (Or.inl ⟨by rfl, ?_⟩) ?_ ?_
    rotate_left
    ·
     intro w'
     go_simp
     with_reducible rfl
    rotate_left
    ·
     simp only [Act.put, sa_', sz_', sc_', i64_w, i32_w]
     rfl
    refine pure_ (i := 2) (N := some 53) (v := ?_) (a' := ?_) #[true, true, true, false, false, false, false, false, false] rfl rfl (any_of HT_.out (by kernel_rfl)) (fun _ _ _ h => h) (Or.inl ⟨by rfl, ?_⟩) ?_ ?_
    rotate_left
    ·
     intro w'
     go_simp
     with_reducible rfl
    rotate_left
    ·
     simp only [Act.put, sa_', sz_', sc_', i64_w, i32_w]
     rfl
    refine pure_ (i := 3) (N := some 54) (v := ?_) (a' := ?_) #[true, true, true, true, false, false, false, false, false] rfl rfl (any_of HT_.out (by kernel_rfl)) (fun _ _ _ h => h) (Or.inl ⟨by rfl, ?_⟩) ?_ ?_
    rotate_left
    ·
     intro w'
     go_simp
     with_reducible rfl
    rotate_left
    ·
     simp only [Act.put, sa_', sz_', sc_', i64_w, i32_w]
     rfl
    refine pure_ (i := 4) (N := some 55) (v := ?_) (a' := ?_) #[true, true, true, true, true, false, false, false, false] rfl rfl (any_of HT_.out (by kernel_rfl)) (fun _ _ _ h => h) (Or.inl ⟨by rfl, ?_⟩) ?_ ?_
    rotate_left
    ·
     intro w'
     go_simp
     with_reducible rfl
    rotate_left
    ·
     simp only [Act.put, sa_', sz_', sc_', i64_w, i32_w]
     rfl
    refine pure_ (i := 5) (N := some 56) (v := ?_) (a' := ?_) #[true, true, true, true, true, true, false, false, false] rfl rfl (any_of HT_.out (by kernel_rfl)) (fun _ _ _ h => h) (Or.inl ⟨by rfl, ?_⟩) ?_ ?_
    rotate_left
    ·
     intro w'
     go_simp
     with_reducible rfl
    rotate_left
    ·
     simp only [Act.put, sa_', sz_', sc_', i64_w, i32_w]
     rfl
    refine pure_ (i := 6) (N := some 57) (v := ?_) (a' := ?_) #[true, true, true, true, true, true, true, false, false] rfl rfl (any_of HT_.out (by kernel_rfl)) (fun _ _ _ h => h) (Or.inl ⟨by rfl, ?_⟩) ?_ ?_
    rotate_left
    ·
     intro w'
     go_simp
     with_reducible rfl
    rotate_left
    ·
     simp only [Act.put, sa_', sz_', sc_', i64_w, i32_w]
     rfl
    refine one_ (i := 7) (N := some 10) #[true, true, true, true, true, true, true, true, false] rfl rfl (one_of HT_.out (by kernel_rfl)) (by decide) (fun K hK => ?_)
    refine box_step ?hg (N := 10) ?hd (cs := #[.int .i64 0, .int .i64 0]) (t := 95) ?hr ?_; (case hd => rfl); (case hg => rfl); (case hr => first | (go_simp; done) | (go_simp; rfl))
    intro gn hg w11 hbox hb
    have F1 := sk_' (F.out.push hg hbox hb)
    clear F hbox hb hg
    have F := F1
    clear F1
    clear hHeld
    refine hK.out _ _ (F.out.c2 (i := 0) rfl).1 (fun hHeld => ?_)
    clear hK K
    refine norm_ (a' := ?_) ?_ ?_
    rotate_left
    ·
     show Act.put _ (some 10) _ = _
     simp only [Act.put, sa_', sz_', sc_', i64_w, i32_w]
     rfl
    refine one_ (i := 8) (N := none) #[true, true, true, true, true, true, true, true, true] rfl rfl (one_of HT_.out (by kernel_rfl)) (by decide) (fun K hK => ?_)
    obtain ⟨gnc0, gnc1, gnf0, gnf1⟩ := F.out.c2 (i := 3) rfl
    refine skip_ (w1 := put2 w11 gn (.int .i64 (wrap64 (Int.tdiv (wrap64 ((wrap64 (a0_0 * (wrap64 (Int.tdiv a1_1 g1)))) + (wrap64 (a1_0 * (wrap64 (Int.tdiv a0_1 g1)))))) g2))) (.int .i64 (wrap64 (Int.tdiv (wrap64 ((wrap64 (Int.tdiv a0_1 g1)) * a1_1)) g2)))) (by rfl) rfl ?_ ?_
    ·
     unfold put2
     go_simp
     try rfl
    clear gnc0 gnc1 gnf0 gnf1
    have F1 := sk_' (F.out.put2 (i := 3) rfl (.int .i64 (wrap64 (Int.tdiv (wrap64 ((wrap64 (a0_0 * (wrap64 (Int.tdiv a1_1 g1)))) + (wrap64 (a1_0 * (wrap64 (Int.tdiv a0_1 g1)))))) g2))) (.int .i64 (wrap64 (Int.tdiv (wrap64 ((wrap64 (Int.tdiv a0_1 g1)) * a1_1)) g2))))
    clear F
    generalize put2 w11 gn (.int .i64 (wrap64 (Int.tdiv (wrap64 ((wrap64 (a0_0 * (wrap64 (Int.tdiv a1_1 g1)))) + (wrap64 (a1_0 * (wrap64 (Int.tdiv a0_1 g1)))))) g2))) (.int .i64 (wrap64 (Int.tdiv (wrap64 ((wrap64 (Int.tdiv a0_1 g1)) * a1_1)) g2))) = w12 at F1 ⊢
    have F := F1
    clear F1
    clear hHeld
    refine hK.out _ _ (F.out.c2 (i := 0) rfl).1 (fun hHeld => ?_)
    clear hK K
    clear hHeld
    refine done_ (done_of HT_.out (by kernel_rfl)) ?_
    have hne := F.out.apart (i := 2) (j := 3) rfl rfl (by decide)
    have H := HA.out
    clear HA
    obtain ⟨gnc0, gnc1, gnf0, gnf1⟩ := F.out.c2 (i := 3) rfl
    cases t9 with
    | false =>
     simp only [Bool.false_eq_true, if_false, Option.some.injEq, Prod.mk.injEq] at H
     obtain ⟨rfl, rfl, rfl⟩ := H
     go_wp2_with (first
      | (go_at_call 146; (with_reducible refine (spec_IsRatio.calls kj (wrap64 (Int.tdiv (wrap64 ((wrap64 (a0_0 * (wrap64 (Int.tdiv a1_1 g1)))) + (wrap64 (a1_0 * (wrap64 (Int.tdiv a0_1 g1)))))) g2)) (wrap64 (Int.tdiv (wrap64 ((wrap64 (Int.tdiv a0_1 g1)) * a1_1)) g2)) false _ A5.out).mono ?_); rintro e w13 ⟨rfl, hb⟩; have F1 := sk_' (F.out.step hb); clear gnc0 gnc1 gnf0 gnf1; clear F hb; have F := F1; clear F1; obtain ⟨grc0, grc1, grf0, grf1⟩ := F.out.c2 (i := 2) rfl; obtain ⟨gnc0, gnc1, gnf0, gnf1⟩ := F.out.c2 (i := 3) rfl))
     refine bodyPost_ret (results_ct rfl _ _ gr 95 #[.int .i64 0, .int .i64 0] (0, 0) _ rfl ((F.out.put2 (i := 2) rfl (.int .i64 0) (.int .i64 0)).get (i := 2) (by rfl)) hu rfl (by kernel_rfl)) rfl ?_
     exact ⟨rfl, (F.out.put2 (i := 2) rfl (.int .i64 0) (.int .i64 0)).below⟩
    | true =>
     simp only [if_true, Option.some.injEq, Prod.mk.injEq] at H
     obtain ⟨rfl, rfl, rfl⟩ := H
     go_wp2_with (first
      | (go_at_call 146; (with_reducible refine (spec_IsRatio.calls kj (wrap64 (Int.tdiv (wrap64 ((wrap64 (a0_0 * (wrap64 (Int.tdiv a1_1 g1)))) + (wrap64 (a1_0 * (wrap64 (Int.tdiv a0_1 g1)))))) g2)) (wrap64 (Int.tdiv (wrap64 ((wrap64 (Int.tdiv a0_1 g1)) * a1_1)) g2)) true _ A5.out).mono ?_); rintro e w13 ⟨rfl, hb⟩; have F1 := sk_' (F.out.step hb); clear gnc0 gnc1 gnf0 gnf1; clear F hb; have F := F1; clear F1; obtain ⟨grc0, grc1, grf0, grf1⟩ := F.out.c2 (i := 2) rfl; obtain ⟨gnc0, gnc1, gnf0, gnf1⟩ := F.out.c2 (i := 3) rfl))
     refine bodyPost_ret (results_ct rfl _ _ gr 95 #[.int .i64 (wrap64 (Int.tdiv (wrap64 ((wrap64 (a0_0 * (wrap64 (Int.tdiv a1_1 g1)))) + (wrap64 (a1_0 * (wrap64 (Int.tdiv a0_1 g1)))))) g2)), .int .i64 (wrap64 (Int.tdiv (wrap64 ((wrap64 (Int.tdiv a0_1 g1)) * a1_1)) g2))] (0, 0) _ rfl ((F.out.put2 (i := 2) rfl (.int .i64 (wrap64 (Int.tdiv (wrap64 ((wrap64 (a0_0 * (wrap64 (Int.tdiv a1_1 g1)))) + (wrap64 (a1_0 * (wrap64 (Int.tdiv a0_1 g1)))))) g2))) (.int .i64 (wrap64 (Int.tdiv (wrap64 ((wrap64 (Int.tdiv a0_1 g1)) * a1_1)) g2)))).get (i := 2) (by rfl)) hu rfl (by kernel_rfl)) rfl ?_
     exact ⟨rfl, (F.out.put2 (i := 2) rfl (.int .i64 (wrap64 (Int.tdiv (wrap64 ((wrap64 (a0_0 * (wrap64 (Int.tdiv a1_1 g1)))) + (wrap64 (a1_0 * (wrap64 (Int.tdiv a0_1 g1)))))) g2))) (.int .i64 (wrap64 (Int.tdiv (wrap64 ((wrap64 (Int.tdiv a0_1 g1)) * a1_1)) g2)))).below⟩
end Go.Proofs.Ytbhlmeghbfmgiaa.F

namespace Go.Proofs.Ytbhlmeghbfmgiaa.F
open Go.RowKit Go.Proofs.YtbhlmeghbfmgiaaW.PrintWords Go.Proofs.YtbhlmeghbfmgiaaW.PrintLast Go.Proofs.YtbhlmeghbfmgiaaW.PrintMore
attribute [local go_sem] max2_int min2_int max_two min_two max_three min_three max_four min_four
set_option linter.unusedVariables false
set_option linter.unusedSimpArgs false
mutual
def spec_TimeOf.j0 : Nat → List (S151) → Int → Bool → Option (Int × Int × Bool)
 | 0, _, _, _ => none
 | k + 1, x0, x1, x20 => if x20 = true then (some (0, 0, false)) else (spec_TimeOf.l0 k x0 x1 0 0 1)
def spec_TimeOf.l0 : Nat → List (S151) → Int → Int → Int → Int → Option (Int × Int × Bool)
 | 0, _, _, _, _, _ => none
 | k + 1, x0, x1, x7, x710000, x710001 => if x7 < (x0.length : Int) then (if 0 ≤ x7 then (spec_TimeOf.j2 k x0 x1 x7 (decide (((rd_T151 x0 x7).f0) < x1)) x710000 x710001) else (none)) else (spec_TimeOf.j2 k x0 x1 x7 false x710000 x710001)
def spec_TimeOf.j2 : Nat → List (S151) → Int → Int → Bool → Int → Int → Option (Int × Int × Bool)
 | 0, _, _, _, _, _, _ => none
 | k + 1, x0, x1, x7, x35, x710000, x710001 => if x35 = true then (if (wrap64 (x7 + 1)) < (x0.length : Int) then (if 0 ≤ (wrap64 (x7 + 1)) then ((spec_Min.f x1 ((rd_T151 x0 (wrap64 (x7 + 1))).f0)).bind fun t712 => (spec_TimeOf.j3 k x0 x1 x7 t712 x710000 x710001)) else (none)) else (spec_TimeOf.j3 k x0 x1 x7 x1 x710000 x710001)) else (some (x710000, x710001, true))
def spec_TimeOf.j3 : Nat → List (S151) → Int → Int → Int → Int → Int → Option (Int × Int × Bool)
 | 0, _, _, _, _, _, _ => none
 | k + 1, x0, x1, x7, x8, x710000, x710001 => if 0 ≤ x7 then (if x7 < (x0.length : Int) then ((spec_MakeRatio.f k (wrap64 ((wrap64 (x8 - ((rd_T151 x0 x7).f0))) * 5000)) ((rd_T151 x0 x7).f1)).bind fun bt715 => ((spec_AddRatio.f k x710000 x710001 bt715.1 bt715.2.1).bind fun bt719 => (if bt719.2.2 = true then (spec_TimeOf.l0 k x0 x1 (wrap64 (x7 + 1)) bt719.1 bt719.2.1) else (some (0, 0, false))))) else (none)) else (none)
end
def spec_TimeOf.f (k : Nat) (l0 : List (S151)) (a1 : Int) : Option (Int × Int × Bool) := (spec_IsTempo.f k l0).bind fun t707 => (if t707 = true then ((spec_l1In.f a1 0 2000).bind fun t708 => (spec_TimeOf.j0 k l0 a1 (!t708))) else (spec_TimeOf.j0 k l0 a1 true))
def spec_TimeOf.T10 : Bool × List (List Nat × List Nat) := (true, [([], []), ([], []), ([], []), ([1, 2], [1, 2]), ([3], [3]), ([4], [4]), ([0, 5], [0, 5]), ([6], [6]), ([], []), ([], []), ([8, 9], [8, 9]), ([10], [10]), ([11], [11]), ([7, 12], [7, 12]), ([13], [13]), ([14], [14]), ([14], [14]), ([], []), ([17, 15, 13, 0, 1, 2, 3, 4, 5, 6, 7, 8, 9, 10, 11, 12, 13, 14, 15, 17], [15, 17]), ([16, 18, 0, 1, 2, 3, 4, 5, 6, 7, 8, 9, 10, 11, 12, 13, 14, 15, 16, 17, 18], [16])])
def spec_TimeOf.B10 : List Nat := [0, 0, 0, 6, 14, 30, 63, 127, 0, 0, 768, 1792, 3840, 8191, 16383, 32767, 32767, 0, 196607, 524287]
theorem spec_TimeOf.tab10 : rtab .any (opsOf Try.f98 10) = spec_TimeOf.T10 := by kernel_rfl
theorem spec_TimeOf.bits10 : waitsOk spec_TimeOf.T10.2 spec_TimeOf.B10 = true := by kernel_rfl
set_option maxHeartbeats 8000000 in
set_option maxRecDepth 100000 in
theorem spec_TimeOf.calls (k : Nat) (A0 : Option Addr) (c0 : Nat) (l0 : List (S151)) (a1 : Int) (r1 : Int) (r2 : Int) (r3 : Bool) (w : World) (hr0 : Kd.C k151 w A0 l0.length l0) (hc0 : l0.length ≤ c0) (h : spec_TimeOf.f k l0 a1 = some (r1, r2, r3)) :
  Calls Try.prog 98 #[.slice A0 l0.length c0, .int .i64 a1] w fun e w' => e = .returned (.tuple #[.agg #[.int .i64 r1, .int .i64 r2], .bool r3]) ∧ Below w.heap.size w w' := by
 have hu := Try.underlying95
 have HR0 := sk_' hr0
 have HC0 := sk_' hc0
 clear hr0 hc0
 have F := sk_' (Fr.of (Below.refl w.heap.size w))
 have H := h
 clear h
 unfold spec_TimeOf.f at H
 replace H := bs_' H
 obtain ⟨t1, B_, H⟩ := H
 have A1 := sk_' B_
 clear B_
 have HA := sk_' H
 clear H
 go_enter Try.func98, Try.ntmps98
 go_upto_region 1 with (first
  | ((with_reducible refine gate_dst (N := 4) rfl ?_); refine box_event ?hg (N := 4) ?hd (cs := #[.int .i64 0, .int .i64 0]) (t := 95) ?hr ?_; (case hd => rfl); (case hg => rfl); (case hr => first | (go_simp; done) | (go_simp; rfl)); intro gr hg w2 hbox hb; have F1 := sk_' (F.out.push hg hbox hb); clear F hbox hb hg; have F := F1; clear F1))
 (try simp only [Act.put, sa_', sz_', sc_'])
 go_cut [20] (fun vc wc => ∃ (kq : Nat) (b : Bool), vc = .bool b ∧ Aside0 (spec_TimeOf.j0 kq l0 a1 b = some (r1, r2, r3)) ∧ Aside0 (Fr w wc [(gr, .cells #[.int .i64 0, .int .i64 0] 95 (0, 0))]))
 case first =>
  have H := HA.out
  clear HA
  cases t1 with
  | false =>
   simp only [Bool.false_eq_true, if_false] at H
   go_wp2_with (first
    | (go_at_call 143; (with_reducible refine (spec_IsTempo.calls k A0 c0 l0 false _ ?s1 HC0.out A1.out).mono ?_); (case s1 => exact Kd.C_below HR0.out F.out.below); rintro e w3 ⟨rfl, hb⟩; have F1 := sk_' (F.out.step hb); clear F hb; have F := F1; clear F1))
   go_meet
   case rel => exact ⟨k, true, (by first | rfl | (simp; done) | (simp [*]; done)), ⟨H⟩, F⟩
  | true =>
   simp only [if_true] at H
   replace H := bs_' H
   obtain ⟨t2, B_, H⟩ := H
   have A2 := sk_' B_
   clear B_
   have HA := sk_' H
   clear H
   cases t2
   all_goals
    go_wp2_with (first
     | (go_at_call 143; (with_reducible refine (spec_IsTempo.calls k A0 c0 l0 true _ ?s1 HC0.out A1.out).mono ?_); (case s1 => exact Kd.C_below HR0.out F.out.below); rintro e w3 ⟨rfl, hb⟩; have F1 := sk_' (F.out.step hb); clear F hb; have F := F1; clear F1)
     | (go_at_call 110; (with_reducible refine (spec_l1In.calls a1 0 2000 _ _ A2.out).mono ?_); rintro e w4 ⟨rfl, hb⟩; have F1 := sk_' (F.out.drawn hb); clear F hb; have F := F1; clear F1))
    go_meet
    case rel => exact ⟨k, _, (by first | rfl | (simp; done) | (simp [*]; done)), HA, F⟩
 case rest =>
  clear HA F A1
  obtain ⟨kq, b, rfl, HA, F⟩ := hcut
  cases kq with
  | zero => exact absurd HA.out (by simp [spec_TimeOf.j0])
  | succ kj =>
   have H := HA.out
   clear HA
   simp only [spec_TimeOf.j0] at H
   cases b with
   | true =>
    simp only [if_true, Option.some.injEq, Prod.mk.injEq] at H
    obtain ⟨rfl, rfl, rfl⟩ := H
    obtain ⟨grc0, grc1, grf0, grf1⟩ := F.out.c2 (i := 0) rfl
    go_wp2
    refine bodyPost_ret (results_ct rfl _ _ gr 95 #[.int .i64 0, .int .i64 0] (0, 0) _ rfl ((F.out.put2 (i := 0) rfl (.int .i64 0) (.int .i64 0)).get (i := 0) (by rfl)) hu rfl (by kernel_rfl)) rfl ?_
    exact ⟨rfl, (F.out.put2 (i := 0) rfl (.int .i64 0) (.int .i64 0)).below⟩
   | false =>
    simp only [Bool.false_eq_true, if_false] at H
    have HA := sk_' H
    clear H
    go_wp2_with (first
     | ((with_reducible refine gate_dst (N := 6) rfl ?_); refine box_event ?hg (N := 6) ?hd (cs := #[.int .i64 0, .int .i64 0]) (t := 95) ?hr ?_; (case hd => rfl); (case hg => rfl); (case hr => first | (go_simp; done) | (go_simp; rfl)); intro gs hg w5 hbox hb; have F1 := sk_' (F.out.push hg hbox hb); clear F hbox hb hg; have F := F1; clear F1; obtain ⟨gsc0, gsc1, gsf0, gsf1⟩ := F.out.c2 (i := 1) rfl)
     | ((with_reducible refine gate_store (t := 95) (p := 6) rfl ?_); refine store_event (t := 95) (p := 6) (v := ?vo_w6) (w1 := put2 w5 gs (.int .i64 0) (.int .i64 1)) ?hg ?ho ?hn ?hr ?_; (case ho => rfl); (case hg => rfl); (case hn => rfl); (case hr => unfold put2; first | (go_simp; done) | (go_simp; rfl)); intro w6 hw; have F1 := sk_' (F.out.put2 (i := 1) rfl (.int .i64 0) (.int .i64 1)); rw [← hw] at F1; clear gsc0 gsc1 gsf0 gsf1; clear F hw; have F := F1; clear F1))
    go_loopg [7] kj (fun kq vx w' => ∃ (x sn sd : Int), vx = .int .i64 x ∧ Aside0 (spec_TimeOf.l0 kq l0 a1 x sn sd = some (r1, r2, r3)) ∧ Aside0 (Fr w w' [(gr, .cells #[.int .i64 0, .int .i64 0] 95 (0, 0)), (gs, .cells #[.int .i64 sn, .int .i64 sd] 95 (0, 0))]))
    case atStart => exact ⟨0, 0, 1, (by first | rfl | (simp; done) | (simp [*]; done)), HA, F⟩
    case round =>
     clear HA F
     obtain ⟨x, sn, sd, rfl, HA, F⟩ := hrel
     cases gk with
     | zero => exact absurd HA.out (by simp [spec_TimeOf.l0])
     | succ k2 =>
      have H := HA.out
      clear HA
      simp only [spec_TimeOf.l0] at H
      by_cases c1 : x < (l0.length : Int)
      ·
       rw [if_pos c1] at H
       by_cases c2 : 0 ≤ x
       ·
        rw [if_pos c2] at H
        cases k2 with
        | zero => exact absurd H (by simp [spec_TimeOf.j2])
        | succ k3 =>
        simp only [spec_TimeOf.j2] at H
        obtain ⟨ad, e, hx0, hx1⟩ := at_T151 HR0.out x c2 c1
        cases e
        have X0 := sk_' hx0
        have X1 := sk_' hx1
        clear hx0 hx1
        generalize hp : (rd_T151 l0 x).f0 = p at H X0
        generalize hq : (rd_T151 l0 x).f1 = q at X1
        have HP := sk_' hp
        have HQ := sk_' hq
        have C1 := sk_' c1
        have C2 := sk_' c2
        have cb1 : decide (x < (l0.length : Int)) = true := decide_eq_true c1
        replace c1 := eq_true c1
        replace c2 := eq_true c2
        clear hp hq
        have hx0 := (F.out.below.cell (bq_' w _ X0.out)).trans X0.out
        by_cases d1 : p < a1
        ·
         rw [if_pos (decide_eq_true d1)] at H
         obtain ⟨ji, hji⟩ : ∃ j_ : Int, wrap64 (x + 1) = j_ := ⟨_, rfl⟩
         have hjw : IntKind.i64.wrap (x + 1) = ji := (i64_w _).trans hji
         rw [hji] at H
         have HJ := sk_' hji
         have d1b : decide (p < a1) = true := decide_eq_true d1
         have HA := sk_' H
         clear H d1 hji
         go_upto_if 43 with (fail)
         clear hx0 d1b
         (try simp only [Act.put, sa_', sz_', sc_'])
         go_cut [8] (fun v8 wc => ∃ (e : Int), v8 = .int .i64 e ∧ Aside0 (spec_TimeOf.j3 k3 l0 a1 x e sn sd = some (r1, r2, r3)) ∧ Aside0 (Fr w wc [(gr, .cells #[.int .i64 0, .int .i64 0] 95 (0, 0)), (gs, .cells #[.int .i64 sn, .int .i64 sd] 95 (0, 0))]))
         case first =>
          have H := HA.out
          clear HA
          by_cases e2 : ji < (l0.length : Int)
          ·
           rw [if_pos e2] at H
           have e2b : decide (ji < (l0.length : Int)) = true := decide_eq_true e2
           rw [e2b]
           by_cases e1 : 0 ≤ ji
           ·
            rw [if_pos e1] at H
            obtain ⟨ad2, e, hy0, hy1⟩ := at_T151 HR0.out ji e1 e2
            obtain rfl : ad = ad2 := by injection e
            replace hy0 := (F.out.below.cell (bq_' w _ hy0)).trans hy0
            clear hy1 e
            generalize (rd_T151 l0 ji).f0 = p2 at H hy0
            replace e1 := eq_true e1
            replace e2 := eq_true e2
            replace H := bs_' H
            obtain ⟨t2, B_, H⟩ := H
            have A2 := sk_' B_
            clear B_
            have HA := sk_' H
            clear H
            go_wp2_with (first
             | (go_at_call 144; (with_reducible refine (spec_Min.calls a1 p2 t2 _ A2.out).mono ?_); rintro e w7 ⟨rfl, hb⟩; have F1 := sk_' (F.out.drawn hb); clear F hb; have F := F1; clear F1; clear hy0))
            go_meet
            case rel => exact ⟨t2, (by first | rfl | (simp; done) | (simp [*]; done)), HA, F⟩
           rw [if_neg e1] at H
           exact absurd H (by simp)
          rw [if_neg e2] at H
          have e2b : decide (ji < (l0.length : Int)) = false := decide_eq_false e2
          rw [e2b]
          clear e2
          have HA := sk_' H
          clear H
          go_wp2
          go_meet
          case rel => exact ⟨a1, (by first | rfl | (simp; done) | (simp [*]; done)), HA, F⟩
         case rest =>
          clear HA F hjw
          obtain ⟨e, rfl, HA, F⟩ := hcut
          cases k3 with
          | zero => exact absurd HA.out (by simp [spec_TimeOf.j3])
          | succ k4 =>
           have H := HA.out
           clear HA
           simp only [spec_TimeOf.j3] at H
           rw [if_pos C2.out, if_pos C1.out, HP.out, HQ.out] at H
           replace H := bs_' H
           obtain ⟨⟨q1, q2, q3⟩, B_, H⟩ := H
           have A2 := sk_' B_
           clear B_
           replace H := bs_' H
           obtain ⟨⟨s1, s2, s3⟩, B_, H⟩ := H
           have A3 := sk_' B_
           clear B_
           have HA := sk_' H
           clear H
           go_wp2
           have F1 := sk_' F.out.drew
           clear F
           have F := F1
           clear F1
           refine start_ (n := 20) (S := fun w' => w'.cell? (ad.add (x.toNat * 2)) = some (.int .i64 p) ∧ w'.cell? ⟨(ad.add (x.toNat * 2)).block, (ad.add (x.toNat * 2)).off + 1, none⟩ = some (.int .i64 q)) (ds := []) #[false, false, false, false, false, false, false, false, false, false, false, false, false, false, false, false, false, false, false, false] (by kernel_rfl) rfl rfl ⟨((F.out.below.cell (bq_' w _ X0.out)).trans X0.out), ((F.out.below.cell (bq_' w _ X1.out)).trans X1.out)⟩ (fun hHeld => ?_); refine with_tabW spec_TimeOf.tab10 spec_TimeOf.bits10 (fun HT_ HW_ => ?_)
           generalize wc.drew = w9 at F hHeld ⊢
           refine pure_ (i := 0) (N := some 53) (v := ?_) (a' := ?_) #[true, false, false, false, false, false, false, false, false, false, false, false, false, false, false, false, false, false, false, false] rfl rfl (any_of HT_.out (by kernel_rfl)) (fun _ _ _ h => h) (Or.inl ⟨by rfl, ?_⟩) ?_ ?_
           rotate_left
           ·
            intro w'
            go_simp
            with_reducible rfl
           rotate_left
           ·
            simp only [Act.put, sa_', sz_', sc_', i64_w, i32_w]
            rfl
           refine pure_ (i := 1) (N := some 54) (v := ?_) (a' := ?_) #[true, true, false, false, false, false, false, false, false, false, false, false, false, false, false, false, false, false, false, false] rfl rfl (any_of HT_.out (by kernel_rfl)) (fun _ _ _ h => h) (Or.inl ⟨by rfl, ?_⟩) ?_ ?_
           rotate_left
           ·
            intro w'
            go_simp
            with_reducible rfl
           rotate_left
           ·
            simp only [Act.put, sa_', sz_', sc_', i64_w, i32_w]
            rfl
           refine pure_ (i := 2) (N := some 55) (v := ?_) (a' := ?_) #[true, true, true, false, false, false, false, false, false, false, false, false, false, false, false, false, false, false, false, false] rfl rfl (any_of HT_.out (by kernel_rfl)) (fun _ _ _ h => h) (Or.inl ⟨by rfl, ?_⟩) ?_ ?_
           rotate_left
           ·
            intro w'
            go_simp
            with_reducible rfl
           rotate_left
           ·
            simp only [Act.put, sa_', sz_', sc_', i64_w, i32_w]
            rfl
           refine pure_ (i := 3) (N := some 56) (v := ?_) (a' := ?_) #[true, true, true, true, false, false, false, false, false, false, false, false, false, false, false, false, false, false, false, false] rfl rfl (any_of HT_.out (by kernel_rfl)) (fun _ _ _ h => h) (Or.inl ⟨by rfl, ?_⟩) ?_ ?_
           rotate_left
           ·
            intro w'
            go_simp
            with_reducible rfl
           rotate_left
           ·
            simp only [Act.put, sa_', sz_', sc_', i64_w, i32_w]
            rfl
           refine pure_ (i := 4) (N := some 57) (v := ?_) (a' := ?_) #[true, true, true, true, true, false, false, false, false, false, false, false, false, false, false, false, false, false, false, false] rfl rfl (any_of HT_.out (by kernel_rfl)) (fun _ _ _ h => h) (Or.inl ⟨by rfl, ?_⟩) ?_ ?_
           rotate_left
           ·
            intro w'
            go_simp
            with_reducible rfl
           rotate_left
           ·
            simp only [Act.put, sa_', sz_', sc_', i64_w, i32_w]
            rfl
           refine pure_ (i := 8) (N := some 61) (v := ?_) (a' := ?_) #[true, true, true, true, true, false, false, false, true, false, false, false, false, false, false, false, false, false, false, false] rfl rfl (any_of HT_.out (by kernel_rfl)) (fun _ _ _ h => h) (Or.inl ⟨by rfl, ?_⟩) ?_ ?_
           rotate_left
           ·
            intro w'
            go_simp
            with_reducible rfl
           rotate_left
           ·
            simp only [Act.put, sa_', sz_', sc_', i64_w, i32_w]
            rfl
           refine pure_ (i := 9) (N := some 62) (v := ?_) (a' := ?_) #[true, true, true, true, true, false, false, false, true, true, false, false, false, false, false, false, false, false, false, false] rfl rfl (any_of HT_.out (by kernel_rfl)) (fun _ _ _ h => h) (Or.inl ⟨by rfl, ?_⟩) ?_ ?_
           rotate_left
           ·
            intro w'
            go_simp
            with_reducible rfl
           rotate_left
           ·
            simp only [Act.put, sa_', sz_', sc_', i64_w, i32_w]
            rfl
           refine pure_ (i := 10) (N := some 63) (v := ?_) (a' := ?_) #[true, true, true, true, true, false, false, false, true, true, true, false, false, false, false, false, false, false, false, false] rfl rfl (any_of HT_.out (by kernel_rfl)) (fun _ _ _ h => h) (Or.inl ⟨by rfl, ?_⟩) ?_ ?_
           rotate_left
           ·
            intro w'
            go_simp
            with_reducible rfl
           rotate_left
           ·
            simp only [Act.put, sa_', sz_', sc_', i64_w, i32_w]
            rfl
           refine pure_ (i := 11) (N := some 64) (v := ?_) (a' := ?_) #[true, true, true, true, true, false, false, false, true, true, true, true, false, false, false, false, false, false, false, false] rfl rfl (any_of HT_.out (by kernel_rfl)) (fun _ _ _ h => h) (Or.inl ⟨by rfl, ?_⟩) ?_ ?_
           rotate_left
           ·
            intro w'
            go_simp
            with_reducible rfl
           rotate_left
           ·
            simp only [Act.put, sa_', sz_', sc_', i64_w, i32_w]
            rfl
           refine take_ (i := 5) (N := some 58) (v := ?_) (a' := ?_) #[true, true, true, true, true, true, false, false, true, true, true, true, false, false, false, false, false, false, false, false] rfl rfl (take_ofW HT_.out HW_.out (by kernel_rfl)) (fun _ _ _ h => h) (Or.inl ⟨by rfl, ?_⟩) hHeld ?_ ?_
           rotate_left
           ·
            rintro w' ⟨s0, s1⟩
            go_simp
            with_reducible rfl
           rotate_left
           ·
            simp only [Act.put, sa_', sz_', sc_', i64_w, i32_w]
            rfl
           refine pure_ (i := 6) (N := some 59) (v := ?_) (a' := ?_) #[true, true, true, true, true, true, true, false, true, true, true, true, false, false, false, false, false, false, false, false] rfl rfl (any_of HT_.out (by kernel_rfl)) (fun _ _ _ h => h) (Or.inl ⟨by rfl, ?_⟩) ?_ ?_
           rotate_left
           ·
            intro w'
            go_simp
            with_reducible rfl
           rotate_left
           ·
            simp only [Act.put, sa_', sz_', sc_', i64_w, i32_w]
            rfl
           refine pure_ (i := 7) (N := some 60) (v := ?_) (a' := ?_) #[true, true, true, true, true, true, true, true, true, true, true, true, false, false, false, false, false, false, false, false] rfl rfl (any_of HT_.out (by kernel_rfl)) (fun _ _ _ h => h) (Or.inl ⟨by rfl, ?_⟩) ?_ ?_
           rotate_left
           ·
            intro w'
            go_simp
            with_reducible rfl
           rotate_left
           ·
            simp only [Act.put, sa_', sz_', sc_', i64_w, i32_w]
            rfl
           refine take_ (i := 12) (N := some 65) (v := ?_) (a' := ?_) #[true, true, true, true, true, true, true, true, true, true, true, true, true, false, false, false, false, false, false, false] rfl rfl (take_ofW HT_.out HW_.out (by kernel_rfl)) (fun _ _ _ h => h) (Or.inl ⟨by rfl, ?_⟩) hHeld ?_ ?_
           rotate_left
           ·
            rintro w' ⟨s0, s1⟩
            go_simp
            with_reducible rfl
           rotate_left
           ·
            simp only [Act.put, sa_', sz_', sc_', i64_w, i32_w]
            rfl
           refine join_ (σ := Nat) 2 #[true, true, true, true, true, true, true, true, true, true, true, true, true, true, true, true, true, true, false, false] (fun s_ => [(66, .tuple #[.agg #[.int .i64 q1, .int .i64 q2], .bool q3]), (9, .pointer (some ⟨s_, 0, none⟩)), (52, .tuple #[.agg #[.int .i64 q1, .int .i64 q2], .bool q3]), (67, .agg #[.int .i64 q1, .int .i64 q2]), (68, .bool q3)]) (fun s_ w' => Fr w w' [(gr, .cells #[.int .i64 0, .int .i64 0] 95 (0, 0)), (gs, .cells #[.int .i64 sn, .int .i64 sd] 95 (0, 0)), (s_, .cells #[.int .i64 0, .int .i64 0] 95 (0, 0))]) ?_ ?_
           rotate_left
           ·
            intro hCont
            refine two_ (i := 13) (j := 17) (Ni := some 66) (Nj := some 9) #[true, true, true, true, true, true, true, true, true, true, true, true, true, true, false, false, false, false, false, false] #[true, true, true, true, true, true, true, true, true, true, true, true, true, false, false, false, false, true, false, false] rfl rfl rfl rfl (two_of HT_.out (by kernel_rfl)) (by decide) (by decide) (fun K hK => ?_) (fun K hK => ?_)
            ·
             refine goes_ Try.func122 (by kernel_rfl) rfl #[.int .i64 (wrap64 ((wrap64 (e - p)) * 5000)), .int .i64 q] (by rfl) rfl rfl (by (try simp only [xm_', xc_', xn_']); first | done | rfl) ?_
             with_reducible refine (spec_MakeRatio.calls k4 (wrap64 ((wrap64 (e - p)) * 5000)) q q1 q2 q3 _ A2.out).mono ?_
             rintro e w10 ⟨rfl, hb⟩
             refine ⟨_, rfl, ?_⟩
             have F1 := sk_' (F.out.step hb)
             clear F hb
             have F := F1
             clear F1
             clear hHeld
             refine hK.out _ _ ⟨((F.out.below.cell (bq_' w _ X0.out)).trans X0.out), ((F.out.below.cell (bq_' w _ X1.out)).trans X1.out)⟩ (fun hHeld => ?_)
             clear hK K
             refine norm_ (a' := ?_) ?_ ?_
             rotate_left
             ·
              show Act.put _ (some 66) _ = _
              simp only [Act.put, sa_', sz_', sc_', i64_w, i32_w]
              rfl
             refine pure_ (i := 14) (N := some 52) (v := ?_) (a' := ?_) #[true, true, true, true, true, true, true, true, true, true, true, true, true, true, true, false, false, false, false, false] rfl rfl (any_of HT_.out (by kernel_rfl)) (fun _ _ _ h => h) (Or.inl ⟨by rfl, ?_⟩) ?_ ?_
             rotate_left
             ·
              intro w'
              go_simp
              with_reducible rfl
             rotate_left
             ·
              simp only [Act.put, sa_', sz_', sc_', i64_w, i32_w]
              rfl
             refine pure_ (i := 15) (N := some 67) (v := ?_) (a' := ?_) #[true, true, true, true, true, true, true, true, true, true, true, true, true, true, true, true, false, false, false, false] rfl rfl (any_of HT_.out (by kernel_rfl)) (fun _ _ _ h => h) (Or.inl ⟨by rfl, ?_⟩) ?_ ?_
             rotate_left
             ·
              intro w'
              go_simp
              with_reducible rfl
             rotate_left
             ·
              simp only [Act.put, sa_', sz_', sc_', i64_w, i32_w]
              rfl
             refine pure_ (i := 16) (N := some 68) (v := ?_) (a' := ?_) #[true, true, true, true, true, true, true, true, true, true, true, true, true, true, true, true, true, false, false, false] rfl rfl (any_of HT_.out (by kernel_rfl)) (fun _ _ _ h => h) (Or.inl ⟨by rfl, ?_⟩) ?_ ?_
             rotate_left
             ·
              intro w'
              go_simp
              with_reducible rfl
             rotate_left
             ·
              simp only [Act.put, sa_', sz_', sc_', i64_w, i32_w]
              rfl
             refine one_ (i := 17) (N := some 9) #[true, true, true, true, true, true, true, true, true, true, true, true, true, true, true, true, true, true, false, false] rfl rfl (one_of HT_.out (by kernel_rfl)) (by decide) (fun K hK => ?_)
             refine box_step ?hg (N := 9) ?hd (cs := #[.int .i64 0, .int .i64 0]) (t := 95) ?hr ?_; (case hd => rfl); (case hg => rfl); (case hr => first | (go_simp; done) | (go_simp; rfl))
             intro gu hg w11 hbox hb
             have F1 := sk_' (F.out.push hg hbox hb)
             clear F hbox hb hg
             have F := F1
             clear F1
             clear hHeld
             refine hK.out _ _ ⟨((F.out.below.cell (bq_' w _ X0.out)).trans X0.out), ((F.out.below.cell (bq_' w _ X1.out)).trans X1.out)⟩ (fun hHeld => ?_)
             clear hK K
             refine norm_ (a' := ?_) ?_ ?_
             rotate_left
             ·
              show Act.put _ (some 9) _ = _
              simp only [Act.put, sa_', sz_', sc_', i64_w, i32_w]
              rfl
             exact norm_ (by simp only [putAll, Act.put, sa_', sz_', sc_']) (hCont gu _ F.out)
            refine box_step ?hg (N := 9) ?hd (cs := #[.int .i64 0, .int .i64 0]) (t := 95) ?hr ?_; (case hd => rfl); (case hg => rfl); (case hr => first | (go_simp; done) | (go_simp; rfl))
            intro gu hg w10 hbox hb
            have F1 := sk_' (F.out.push hg hbox hb)
            clear F hbox hb hg
            have F := F1
            clear F1
            clear hHeld
            refine hK.out _ _ ⟨((F.out.below.cell (bq_' w _ X0.out)).trans X0.out), ((F.out.below.cell (bq_' w _ X1.out)).trans X1.out)⟩ (fun hHeld => ?_)
            clear hK K
            refine norm_ (a' := ?_) ?_ ?_
            rotate_left
            ·
             show Act.put _ (some 9) _ = _
             simp only [Act.put, sa_', sz_', sc_', i64_w, i32_w]
             rfl
            refine one_ (i := 13) (N := some 66) #[true, true, true, true, true, true, true, true, true, true, true, true, true, true, false, false, false, true, false, false] rfl rfl (one_of HT_.out (by kernel_rfl)) (by decide) (fun K hK => ?_)
            refine goes_ Try.func122 (by kernel_rfl) rfl #[.int .i64 (wrap64 ((wrap64 (e - p)) * 5000)), .int .i64 q] (by rfl) rfl rfl (by (try simp only [xm_', xc_', xn_']); first | done | rfl) ?_
            with_reducible refine (spec_MakeRatio.calls k4 (wrap64 ((wrap64 (e - p)) * 5000)) q q1 q2 q3 _ A2.out).mono ?_
            rintro e w11 ⟨rfl, hb⟩
            refine ⟨_, rfl, ?_⟩
            have F1 := sk_' (F.out.step hb)
            clear F hb
            have F := F1
            clear F1
            clear hHeld
            refine hK.out _ _ ⟨((F.out.below.cell (bq_' w _ X0.out)).trans X0.out), ((F.out.below.cell (bq_' w _ X1.out)).trans X1.out)⟩ (fun hHeld => ?_)
            clear hK K
            refine norm_ (a' := ?_) ?_ ?_
            rotate_left
            ·
             show Act.put _ (some 66) _ = _
             simp only [Act.put, sa_', sz_', sc_', i64_w, i32_w]
             rfl
            refine pure_ (i := 14) (N := some 52) (v := ?_) (a' := ?_) #[true, true, true, true, true, true, true, true, true, true, true, true, true, true, true, false, false, true, false, false] rfl rfl (any_of HT_.out (by kernel_rfl)) (fun _ _ _ h => h) (Or.inl ⟨by rfl, ?_⟩) ?_ ?_
            rotate_left
            ·
             intro w'
             go_simp
             with_reducible rfl
            rotate_left
            ·
             simp only [Act.put, sa_', sz_', sc_', i64_w, i32_w]
             rfl
            refine pure_ (i := 15) (N := some 67) (v := ?_) (a' := ?_) #[true, true, true, true, true, true, true, true, true, true, true, true, true, true, true, true, false, true, false, false] rfl rfl (any_of HT_.out (by kernel_rfl)) (fun _ _ _ h => h) (Or.inl ⟨by rfl, ?_⟩) ?_ ?_
            rotate_left
            ·
             intro w'
             go_simp
             with_reducible rfl
            rotate_left
            ·
             simp only [Act.put, sa_', sz_', sc_', i64_w, i32_w]
             rfl
            refine pure_ (i := 16) (N := some 68) (v := ?_) (a' := ?_) #[true, true, true, true, true, true, true, true, true, true, true, true, true, true, true, true, true, true, false, false] rfl rfl (any_of HT_.out (by kernel_rfl)) (fun _ _ _ h => h) (Or.inl ⟨by rfl, ?_⟩) ?_ ?_
            rotate_left
            ·
             intro w'
             go_simp
             with_reducible rfl
            rotate_left
            ·
             simp only [Act.put, sa_', sz_', sc_', i64_w, i32_w]
             rfl
            exact norm_ (by simp only [putAll, Act.put, sa_', sz_', sc_']) (hCont gu _ F.out)
           rintro gu w12 hF_
           clear F hHeld
           have F := sk_' hF_
           clear hF_
           refine norm_ (a' := ?_) ?_ ?_
           rotate_left
           ·
            simp only [putAll, Act.put, sa_', sz_', sc_', i64_w, i32_w]
            rfl
           have hHeld := F
           refine one_ (i := 18) (N := none) #[true, true, true, true, true, true, true, true, true, true, true, true, true, true, true, true, true, true, true, false] rfl rfl (one_of HT_.out (by kernel_rfl)) (by decide) (fun K hK => ?_)
           obtain ⟨guc0, guc1, guf0, guf1⟩ := F.out.c2 (i := 2) rfl
           refine skip_ (w1 := put2 w12 gu (.int .i64 q1) (.int .i64 q2)) (by rfl) rfl ?_ ?_
           ·
            unfold put2
            go_simp
            try rfl
           clear guc0 guc1 guf0 guf1
           have F1 := sk_' (F.out.put2 (i := 2) rfl (.int .i64 q1) (.int .i64 q2))
           clear F
           generalize put2 w12 gu (.int .i64 q1) (.int .i64 q2) = w13 at F1 ⊢
           have F := F1
           clear F1
           clear hHeld
           refine hK.out _ _ ⟨((F.out.below.cell (bq_' w _ X0.out)).trans X0.out), ((F.out.below.cell (bq_' w _ X1.out)).trans X1.out)⟩ (fun hHeld => ?_)
           clear hK K
           refine pure_ (i := 19) (N := some 10) (v := ?_) (a' := ?_) #[true, true, true, true, true, true, true, true, true, true, true, true, true, true, true, true, true, true, true, true] rfl rfl (any_of HT_.out (by kernel_rfl)) (fun _ _ _ h => h) (Or.inl ⟨by rfl, ?_⟩) ?_ ?_
           rotate_left
           ·
            intro w'
            go_simp
            with_reducible rfl
           rotate_left
           ·
            simp only [Act.put, sa_', sz_', sc_', i64_w, i32_w]
            rfl
           clear hHeld
           refine done_ (done_of HT_.out (by kernel_rfl)) ?_
           obtain ⟨gsc0, gsc1, gsf0, gsf1⟩ := F.out.c2 (i := 1) rfl
           obtain ⟨guc0, guc1, guf0, guf1⟩ := F.out.c2 (i := 2) rfl
           go_upto_region 12 with (first
            | (go_at_call 145; (with_reducible refine (spec_AddRatio.calls k4 sn sd q1 q2 s1 s2 s3 _ A3.out).mono ?_); rintro e w14 ⟨rfl, hb⟩; have F1 := sk_' (F.out.step hb); clear gsc0 gsc1 gsf0 gsf1 guc0 guc1 guf0 guf1; clear F hb; have F := F1; clear F1)
            | ((with_reducible refine gate_dst (N := 11) rfl ?_); refine box_event ?hg (N := 11) ?hd (cs := #[.int .i64 0, .int .i64 0]) (t := 95) ?hr ?_; (case hd => rfl); (case hg => rfl); (case hr => first | (go_simp; done) | (go_simp; rfl)); intro g11 hg w15 hbox hb; have F1 := sk_' (F.out.push hg hbox hb); clear F hbox hb hg; have F := F1; clear F1; obtain ⟨g11c0, g11c1, g11f0, g11f1⟩ := F.out.c2 (i := 3) rfl)
            | ((with_reducible refine gate_store (t := 95) (p := 11) rfl ?_); refine store_event (t := 95) (p := 11) (v := ?vo_w16) (w1 := put2 w15 g11 (.int .i64 s1) (.int .i64 s2)) ?hg ?ho ?hn ?hr ?_; (case ho => rfl); (case hg => rfl); (case hn => rfl); (case hr => unfold put2; first | (go_simp; done) | (go_simp; rfl)); intro w16 hw; have F1 := sk_' (F.out.put2 (i := 3) rfl (.int .i64 s1) (.int .i64 s2)); rw [← hw] at F1; clear g11c0 g11c1 g11f0 g11f1; clear F hw; have F := F1; clear F1))
           have H := HA.out
           clear HA
           cases s3 with
           | false =>
            simp only [Bool.false_eq_true, if_false, if_true, Option.some.injEq, Prod.mk.injEq] at H
            obtain ⟨rfl, rfl, rfl⟩ := H
            obtain ⟨grc0, grc1, grf0, grf1⟩ := F.out.c2 (i := 0) rfl
            go_wp2
            refine bodyPost_ret (results_ct rfl _ _ gr 95 #[.int .i64 0, .int .i64 0] (0, 0) _ rfl ((F.out.put2 (i := 0) rfl (.int .i64 0) (.int .i64 0)).get (i := 0) (by rfl)) hu rfl (by kernel_rfl)) rfl ?_
            exact ⟨rfl, (F.out.put2 (i := 0) rfl (.int .i64 0) (.int .i64 0)).below⟩
           | true =>
            simp only [if_true] at H
            have HA := sk_' H
            clear H
            obtain ⟨gsc0, gsc1, gsf0, gsf1⟩ := F.out.c2 (i := 1) rfl
            obtain ⟨g11c0, g11c1, g11f0, g11f1⟩ := F.out.c2 (i := 3) rfl
            go_wp2_with (first
             | ((with_reducible refine gate_store (t := 95) (p := 6) rfl ?_); refine store_event (t := 95) (p := 6) (v := ?vo_w17) (w1 := put2 w16 gs (.int .i64 s1) (.int .i64 s2)) ?hg ?ho ?hn ?hr ?_; (case ho => rfl); (case hg => rfl); (case hn => rfl); (case hr => unfold put2; first | (go_simp; done) | (go_simp; rfl)); intro w17 hw; have F1 := sk_' (F.out.put2 (i := 1) rfl (.int .i64 s1) (.int .i64 s2)); rw [← hw] at F1; clear gsc0 gsc1 gsf0 gsf1 g11c0 g11c1 g11f0 g11f1; clear F hw; have F := F1; clear F1))
            go_roundg k4
            case measure => omega
            case rel => exact ⟨wrap64 (x + 1), s1, s2, (by first | rfl | (simp; done) | (simp [*]; done)), HA, ⟨F.out.take 2⟩⟩
        rw [if_neg (by rw [decide_eq_false d1]; simp)] at H
        have d1b : decide (p < a1) = false := decide_eq_false d1
        clear d1
        simp only [Option.some.injEq, Prod.mk.injEq] at H
        obtain ⟨rfl, rfl, rfl⟩ := H
        obtain ⟨grc0, grc1, grf0, grf1⟩ := F.out.c2 (i := 0) rfl
        obtain ⟨gsc0, gsc1, gsf0, gsf1⟩ := F.out.c2 (i := 1) rfl
        have hne := F.out.apart (i := 0) (j := 1) rfl rfl (by decide)
        go_wp2
        refine bodyPost_ret (results_ct rfl _ _ gr 95 #[.int .i64 sn, .int .i64 sd] (0, 0) _ rfl ((F.out.put2 (i := 0) rfl (.int .i64 sn) (.int .i64 sd)).get (i := 0) (by rfl)) hu rfl (by kernel_rfl)) rfl ?_
        exact ⟨rfl, (F.out.put2 (i := 0) rfl (.int .i64 sn) (.int .i64 sd)).below⟩
       rw [if_neg c2] at H
       exact absurd H (by simp)
      rw [if_neg c1] at H
      have cb1 : decide (x < (l0.length : Int)) = false := decide_eq_false c1
      clear c1
      cases k2 with
      | zero => exact absurd H (by simp [spec_TimeOf.j2])
      | succ k3 =>
      simp only [spec_TimeOf.j2, Bool.false_eq_true, if_false] at H
      simp only [Option.some.injEq, Prod.mk.injEq] at H
      obtain ⟨rfl, rfl, rfl⟩ := H
      obtain ⟨grc0, grc1, grf0, grf1⟩ := F.out.c2 (i := 0) rfl
      obtain ⟨gsc0, gsc1, gsf0, gsf1⟩ := F.out.c2 (i := 1) rfl
      have hne := F.out.apart (i := 0) (j := 1) rfl rfl (by decide)
      go_wp2
      refine bodyPost_ret (results_ct rfl _ _ gr 95 #[.int .i64 sn, .int .i64 sd] (0, 0) _ rfl ((F.out.put2 (i := 0) rfl (.int .i64 sn) (.int .i64 sd)).get (i := 0) (by rfl)) hu rfl (by kernel_rfl)) rfl ?_
      exact ⟨rfl, (F.out.put2 (i := 0) rfl (.int .i64 sn) (.int .i64 sd)).below⟩
end Go.Proofs.Ytbhlmeghbfmgiaa.F
