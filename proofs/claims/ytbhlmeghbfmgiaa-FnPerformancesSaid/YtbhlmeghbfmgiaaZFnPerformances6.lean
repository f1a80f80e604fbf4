/- FnPerformances, part 6 of 7: texts of the claim, joined into one file. -/
import Derived.Test.YtbhlmeghbfmgiaaZFnPerformances5
import Derived.Deep.Slices
import Derived.Deep.Fields
import Derived.ChangeSame
import Derived.ChangeArms
import Derived.Lib.SmallJoins
import Derived.OpenShut
import Derived.Says
import Derived.Shelf.Abstract
import Derived.Lib.SliceRun

namespace Go.Proofs.Ytbhlmeghbfmgiaa.F
open Go.RowKit Go.Proofs.YtbhlmeghbfmgiaaW.PrintWords Go.Proofs.YtbhlmeghbfmgiaaW.PrintLast Go.Proofs.YtbhlmeghbfmgiaaW.PrintMore
attribute [local go_sem] max2_int min2_int max_two min_two max_three min_three max_four min_four
set_option linter.unusedVariables false
set_option linter.unusedSimpArgs false
def spec_l8Tune.l0 : Nat → Int → List (S26) → Int → Int → List Int → Int → Int → Option ((List (S26)) × Int × Int)
 | 0, _, _, _, _, _, _, _ => none
 | k + 1, x1, x7, x8, x9, x1000, x1001, x1002 => if x9 > 0 then ((spec_l1Below.f x1000 x1001 x1002 3).bind fun bt848 => ((spec_l1Below.f x1000 bt848.2.1 bt848.2.2 8).bind fun bt851 => ((spec_l1Once.f x1000 bt851.2.1 bt851.2.2 5).bind fun bt855 => (if bt855.1 = true then ((spec_PutEvent.f k x7 x8 (wrap64 (6 * (wrap64 (1 + bt848.1)))) (wrap64 (60 + bt851.1)) x1).bind fun bt858 => (spec_l8Tune.l0 k x1 bt858.1 (wrap64 ((wrap64 (x8 + (wrap64 (6 * (wrap64 (1 + bt848.1)))))) + 12)) (wrap64 (x9 - 1)) x1000 bt855.2.1 bt855.2.2)) else ((spec_PutEvent.f k x7 x8 (wrap64 (6 * (wrap64 (1 + bt848.1)))) (wrap64 (60 + bt851.1)) x1).bind fun bt862 => (spec_l8Tune.l0 k x1 bt862.1 (wrap64 (x8 + (wrap64 (6 * (wrap64 (1 + bt848.1)))))) (wrap64 (x9 - 1)) x1000 bt855.2.1 bt855.2.2)))))) else (some (x7, x1001, x1002))
def spec_l8Tune.f (k : Nat) (s0_0 : List Int) (s0_1 : Int) (s0_2 : Int) (a1 : Int) (a2 : Int) : Option ((List (S26)) × Int × Int) := (spec_l1Below.f s0_0 s0_1 s0_2 a2).bind fun bt845 => (spec_l8Tune.l0 k a1 (([] : List (S26))) 0 bt845.1 s0_0 bt845.2.1 bt845.2.2)
set_option maxHeartbeats 8000000 in
set_option maxRecDepth 100000 in
theorem spec_l8Tune.calls (k : Nat) (g : Nat) (s0_0 : List Int) (s0_1 : Int) (s0_2 : Int) (a1 : Int) (a2 : Int) (r1 : List (S26)) (r2 : Int) (r3 : Int) (w0 w : World) (hI : IsS157 w0 w g s0_0 s0_1 s0_2) (hB : Below w0.heap.size w0 w) (h : spec_l8Tune.f k s0_0 s0_1 s0_2 a1 a2 = some (r1, r2, r3)) :
  Calls Try.prog 157 #[.pointer (some ⟨g, 0, none⟩), .int .i64 a1, .int .i64 a2] w fun e w' => ∃ v0_ : Value, e = .returned (v0_) ∧ Kd.R k26 26 w' w.heap.size (fun _ => True) v0_ r1 ∧ IsS157 w0 w' g s0_0 r2 r3 ∧ Below w0.heap.size w0 w' ∧ KeepBut w w' g none := by
 have hu26 := Try.underlying26
 have HI0 := sk_' hI
 have HK := sk_' (KeepBut.refl w g none)
 have HL := sk_' hB.size
 clear hI
 have HW0 := sk_' hB.size
 have HB := sk_' hB
 clear hB
 have H : ((spec_l1Below.f s0_0 s0_1 s0_2 a2).bind fun bt845 => (spec_l8Tune.l0 k a1 (([] : List (S26))) 0 bt845.1 s0_0 bt845.2.1 bt845.2.2)) = some (r1, r2, r3) := h
 clear h
 obtain ⟨y842, hy842⟩ : ∃ y_ : List (S26), y_ = (([] : List (S26))) := ⟨_, rfl⟩
 replace H : ((spec_l1Below.f s0_0 s0_1 s0_2 a2).bind fun bt845 => (spec_l8Tune.l0 k a1 y842 0 bt845.1 s0_0 bt845.2.1 bt845.2.2)) = some (r1, r2, r3) := by first | (rw [hy842]; with_reducible exact H) | (have H2_ := (Option.bind_some _ _).symm.trans H; rw [hy842]; with_reducible exact H2_) | (have H2_ := (Option.bind_some _ _).symm.trans H; with_reducible exact H2_) | with_reducible exact H | (rw [hy842]; exact H) | exact H
 have Ny842 := sk_' hy842
 clear hy842
 replace H := bs_' H
 obtain ⟨⟨t845, t846, t847⟩, A40, H⟩ := H
 try dsimp only at H
 have A4 := sk_' A40
 clear A40
 have H' := sk_' H
 clear H
 go_enter Try.func157, Try.ntmps157
 go_wp2_with (first | ((with_reducible refine gate_dst (N := 11) rfl ?_); refine Kd.R_lit k26 _ 26 ?hg (N := 11) ?hd (xs := ([] : List (S26))) (inner := []) (ok := fun _ => True) (okp := fun _ => True) ?hr ?hp (fun _ hk => hk) trivial (Below.refl _ _) (Nat.le_refl _) (by simp) ?_; (case hd => rfl); (case hg => rfl); (case hr => first | (go_simp; done) | (go_simp; rfl)); (case hp => exact (Reps.none _ _)); intro v843 w5 ho6 hb hg_ hnew_; clear hg_ hnew_; (first | rw [← Ny842.out] at ho6 | (simp only [Int.reduceToNat] at ho6; rw [← Ny842.out] at ho6)); have n0_ := sk_' (Kd.R_lower ho6 (keep_size (w := w) (g := g) (row := none) (by repeat (first | (with_reducible first | exact HK.out | apply KeepBut.set_ | apply keep_drewN | apply keep_drew | apply keep_alloc) | exact HK.out)))); have n1_ := sk_' (IsS157.below (by repeat (first | (with_reducible first | exact HI0.out | apply IsS157.alloc | apply IsS157.drewN | apply IsS157.drew | apply IsS157.set_1 | apply IsS157.set_2) | exact HI0.out)) hb); have n2_ := sk_' (KeepBut.trans (by repeat (first | (with_reducible first | exact HK.out | apply KeepBut.set_ | apply keep_drewN | apply keep_drew | apply keep_alloc) | exact HK.out)) (KeepBut.of_below hb g none) (.inl rfl)); have n3_ := sk_' (pp_' (by repeat (first | (with_reducible first | exact HB.out | apply pa_' | apply pn_' | apply pd_' | refine pt_' ?_ (IsS157.ge HI0.out)) | exact HB.out)) hb); clear HI0; clear HK; clear HB; have HO844 := n0_; have HI0 := n1_; have HK := n2_; have HB := n3_; clear n0_ n1_ n2_ n3_; clear hb ho6) | ((with_reducible refine xj_' (f := 91) rfl ?_); refine goesL_ (some 14) rfl rfl Try.func91 (by kernel_rfl) rfl #[.pointer (some ⟨g, 0, none⟩), .int .i64 a2] rfl (by (try simp only [xm_', xc_', xn_']); first | done | rfl | (simp only [xd_', xt_']; rfl)) ?_; (with_reducible refine (spec_l1Below.calls g s0_0 s0_1 s0_2 a2 t845 t846 t847 w0 _ ?side1 ?side2 A4.out).mono ?_); (case side1 => repeat (first | (with_reducible first | exact HI0.out | apply IsS157.alloc | apply IsS157.drewN | apply IsS157.drew | apply IsS157.set_1 | apply IsS157.set_2) | exact HI0.out)); (case side2 => repeat (first | (with_reducible first | exact HB.out | apply pa_' | apply pn_' | apply pd_' | refine pt_' ?_ (IsS157.ge HI0.out)) | exact HB.out)); rintro e w7 ⟨rfl, hi, hb, hk⟩; refine ⟨_, rfl, ?_⟩; have n0_ := sk_' (xi_' (Kd.R_keep (IsS157.apart (show IsS157 w0 _ g s0_0 s0_1 s0_2 from by repeat (first | (with_reducible first | exact HI0.out | apply IsS157.alloc | apply IsS157.drewN | apply IsS157.drew | apply IsS157.set_1 | apply IsS157.set_2) | exact HI0.out)) (by (with_reducible repeat (first | apply ra_' | apply rn_' | apply rd1_')); exact HO844.out) (by decide)) hk (fun _ h => h.2)) (fun _ h => h.1)); have n1_ := sk_' (KeepBut.trans (by repeat (first | (with_reducible first | exact HK.out | apply KeepBut.set_ | apply keep_drewN | apply keep_drew | apply keep_alloc) | exact HK.out)) hk (.inl rfl)); have n2_ := sk_' (hb); have n3_ := sk_' (hi); clear HO844; clear HK; clear HB; clear HI0; have HO844 := n0_; have HK := n1_; have HB := n2_; have HI0 := n3_; clear n0_ n1_ n2_ n3_; (try clear hb); (try clear hb2); (try clear hk); (try clear hi)))
 go_loopg [7, 8, 9] k (fun kq v7 v8 v9 w' => ∃ (x7_1 : List (S26)) (x8_1 : Int) (x9_1 : Int) (x1001_1 : Int) (x1002_1 : Int), v8 = .int .i64 x8_1 ∧ v9 = .int .i64 x9_1 ∧ Aside0 (spec_l8Tune.l0 kq a1 x7_1 x8_1 x9_1 s0_0 x1001_1 x1002_1 = some (r1, r2, r3)) ∧ Aside0 (kq ≤ k) ∧ Aside0 (Kd.R k26 26 w' w.heap.size (fun _ => True) v7 x7_1) ∧ Aside0 (IsS157 w0 w' g s0_0 x1001_1 x1002_1) ∧ Aside0 (KeepBut w w' g none) ∧ Aside0 (Below w0.heap.size w0 w'))
 case atStart => exact ⟨(y842), (0), (t845), (t846), (t847), (by first | rfl | (simp; done) | (simp [*]; done)), (by first | rfl | (simp; done) | (simp [*]; done)), H', ⟨Nat.le_refl _⟩, ⟨by (with_reducible repeat (first | apply ra_' | apply rn_' | apply rd1_')); exact HO844.out⟩, ⟨by repeat (first | (with_reducible first | exact HI0.out | apply IsS157.alloc | apply IsS157.drewN | apply IsS157.drew | apply IsS157.set_1 | apply IsS157.set_2) | exact HI0.out)⟩, ⟨by repeat (first | (with_reducible first | exact HK.out | apply KeepBut.set_ | apply keep_drewN | apply keep_drew | apply keep_alloc) | exact HK.out)⟩, ⟨by repeat (first | (with_reducible first | exact HB.out | apply pa_' | apply pn_' | apply pd_' | refine pt_' ?_ (IsS157.ge HI0.out)) | exact HB.out)⟩⟩
 case round =>
  clear H'
  try clear c1
  try clear p2
  obtain ⟨x7_1, x8_1, x9_1, x1001_1, x1002_1, rfl, rfl, HA, HK1, HO_7, HI0, HK, HB⟩ := hrel
  cases gk with
  | zero => exact absurd HA.out (by simp [spec_l8Tune.l0])
  | succ k1 =>
   have H := HA.out
   clear HA
   simp only [spec_l8Tune.l0] at H
   by_cases c8 : x9_1 > 0
   ·
    rw [if_pos c8] at H
    have c8b0 : decide (0 < x9_1) = true := decide_eq_true c8
    clear c8
    replace H := bs_' H
    obtain ⟨⟨t848, t849, t850⟩, A90, H⟩ := H
    try dsimp only at H
    have A9 := sk_' A90
    clear A90
    replace H := bs_' H
    obtain ⟨⟨t851, t852, t853⟩, A100, H⟩ := H
    try dsimp only at H
    have A10 := sk_' A100
    clear A100
    replace H := bs_' H
    obtain ⟨⟨t855, t856, t857⟩, A110, H⟩ := H
    try dsimp only at H
    have A11 := sk_' A110
    clear A110
    by_cases c12 : t855 = true
    ·
     subst c12
     rw [if_pos rfl] at H
     replace H := bs_' H
     obtain ⟨⟨t858, t861⟩, A130, H⟩ := H
     try dsimp only at H
     have A13 := sk_' A130
     clear A130
     have H' := sk_' H
     clear H
     go_wp2_with (first | ((with_reducible refine xj_' (f := 91) rfl ?_); refine goesL_ (some 21) rfl rfl Try.func91 (by kernel_rfl) rfl #[.pointer (some ⟨g, 0, none⟩), .int .i64 3] rfl (by (try simp only [xm_', xc_', xn_']); first | done | rfl | (simp only [xd_', xt_']; rfl)) ?_; (with_reducible refine (spec_l1Below.calls g s0_0 x1001_1 x1002_1 3 t848 t849 t850 w0 _ ?side1 ?side2 A9.out).mono ?_); (case side1 => repeat (first | (with_reducible first | exact HI0.out | apply IsS157.alloc | apply IsS157.drewN | apply IsS157.drew | apply IsS157.set_1 | apply IsS157.set_2) | exact HI0.out)); (case side2 => repeat (first | (with_reducible first | exact HB.out | apply pa_' | apply pn_' | apply pd_' | refine pt_' ?_ (IsS157.ge HI0.out)) | exact HB.out)); rintro e w14 ⟨rfl, hi, hb, hk⟩; refine ⟨_, rfl, ?_⟩; have n0_ := sk_' (xi_' (Kd.R_keep (IsS157.apart (show IsS157 w0 _ g s0_0 x1001_1 x1002_1 from by repeat (first | (with_reducible first | exact HI0.out | apply IsS157.alloc | apply IsS157.drewN | apply IsS157.drew | apply IsS157.set_1 | apply IsS157.set_2) | exact HI0.out)) (by (with_reducible repeat (first | apply ra_' | apply rn_' | apply rd1_')); exact HO_7.out) (by decide)) hk (fun _ h => h.2)) (fun _ h => h.1)); have n1_ := sk_' (KeepBut.trans (by repeat (first | (with_reducible first | exact HK.out | apply KeepBut.set_ | apply keep_drewN | apply keep_drew | apply keep_alloc) | exact HK.out)) hk (.inl rfl)); have n2_ := sk_' (hb); have n3_ := sk_' (hi); clear HO_7; clear HK; clear HB; clear HI0; have HO_7 := n0_; have HK := n1_; have HB := n2_; have HI0 := n3_; clear n0_ n1_ n2_ n3_; (try clear hb); (try clear hb2); (try clear hk); (try clear hi)) | ((with_reducible refine xj_' (f := 91) rfl ?_); refine goesL_ (some 25) rfl rfl Try.func91 (by kernel_rfl) rfl #[.pointer (some ⟨g, 0, none⟩), .int .i64 8] rfl (by (try simp only [xm_', xc_', xn_']); first | done | rfl | (simp only [xd_', xt_']; rfl)) ?_; (with_reducible refine (spec_l1Below.calls g s0_0 t849 t850 8 t851 t852 t853 w0 _ ?side1 ?side2 A10.out).mono ?_); (case side1 => repeat (first | (with_reducible first | exact HI0.out | apply IsS157.alloc | apply IsS157.drewN | apply IsS157.drew | apply IsS157.set_1 | apply IsS157.set_2) | exact HI0.out)); (case side2 => repeat (first | (with_reducible first | exact HB.out | apply pa_' | apply pn_' | apply pd_' | refine pt_' ?_ (IsS157.ge HI0.out)) | exact HB.out)); rintro e w15 ⟨rfl, hi, hb, hk⟩; refine ⟨_, rfl, ?_⟩; have n0_ := sk_' (xi_' (Kd.R_keep (IsS157.apart (show IsS157 w0 _ g s0_0 t849 t850 from by repeat (first | (with_reducible first | exact HI0.out | apply IsS157.alloc | apply IsS157.drewN | apply IsS157.drew | apply IsS157.set_1 | apply IsS157.set_2) | exact HI0.out)) (by (with_reducible repeat (first | apply ra_' | apply rn_' | apply rd1_')); exact HO_7.out) (by decide)) hk (fun _ h => h.2)) (fun _ h => h.1)); have n1_ := sk_' (KeepBut.trans (by repeat (first | (with_reducible first | exact HK.out | apply KeepBut.set_ | apply keep_drewN | apply keep_drew | apply keep_alloc) | exact HK.out)) hk (.inl rfl)); have n2_ := sk_' (hb); have n3_ := sk_' (hi); clear HO_7; clear HK; clear HB; clear HI0; have HO_7 := n0_; have HK := n1_; have HB := n2_; have HI0 := n3_; clear n0_ n1_ n2_ n3_; (try clear hb); (try clear hb2); (try clear hk); (try clear hi)) | ((with_reducible refine gate_dst (N := 10) rfl ?_); refine box_event ?hg (N := 10) ?hd (cs := #[.int .i64 0, .int .i64 0, .int .i64 0, .int .i64 0]) (t := 26) ?hr ?_; (case hd => rfl); (case hg => rfl); (case hr => first | (go_simp; done) | (go_simp; rfl)); intro gb854 hg w16 hbox hb; have n0_ := sk_' (xb_' (Kd.R_elderB (by (with_reducible repeat (first | apply ra_' | apply rn_' | apply rd1_')); exact HO_7.out) gb854 (Nat.le_of_eq hg.symm)) hb); have n1_ := sk_' (IsS157.below (by repeat (first | (with_reducible first | exact HI0.out | apply IsS157.alloc | apply IsS157.drewN | apply IsS157.drew | apply IsS157.set_1 | apply IsS157.set_2) | exact HI0.out)) hb); have n2_ := sk_' (KeepBut.trans (by repeat (first | (with_reducible first | exact HK.out | apply KeepBut.set_ | apply keep_drewN | apply keep_drew | apply keep_alloc) | exact HK.out)) (KeepBut.of_below hb g none) (.inl rfl)); have n3_ := sk_' (pp_' (by repeat (first | (with_reducible first | exact HB.out | apply pa_' | apply pn_' | apply pd_' | refine pt_' ?_ (IsS157.ge HI0.out)) | exact HB.out)) hb); have n4_ := sk_' (hbox); have n5_ := sk_' ((by rw [hg]; exact (keep_size (w := w) (g := g) (row := none) (by repeat (first | (with_reducible first | exact HK.out | apply KeepBut.set_ | apply keep_drewN | apply keep_drew | apply keep_alloc) | exact HK.out))) : w.heap.size ≤ gb854)); have n6_ := sk_' ((Nat.le_trans HW0.out (by rw [hg]; exact (keep_size (w := w) (g := g) (row := none) (by repeat (first | (with_reducible first | exact HK.out | apply KeepBut.set_ | apply keep_drewN | apply keep_drew | apply keep_alloc) | exact HK.out))) : w.heap.size ≤ gb854) : w0.heap.size ≤ gb854)); have n7_ := sk_' ((by rw [hg]; exact Nat.ne_of_lt (IsS157.lt (show IsS157 w0 _ g s0_0 t852 t853 from by repeat (first | (with_reducible first | exact HI0.out | apply IsS157.alloc | apply IsS157.drewN | apply IsS157.drew | apply IsS157.set_1 | apply IsS157.set_2) | exact HI0.out))) : g ≠ gb854)); have n8_ := sk_' ((by rw [hg]; exact Nat.ne_of_gt (IsS157.lt (show IsS157 w0 _ g s0_0 t852 t853 from by repeat (first | (with_reducible first | exact HI0.out | apply IsS157.alloc | apply IsS157.drewN | apply IsS157.drew | apply IsS157.set_1 | apply IsS157.set_2) | exact HI0.out))) : gb854 ≠ g)); clear HO_7; clear HI0; clear HK; clear HB; have HO_7 := n0_; have HI0 := n1_; have HK := n2_; have HB := n3_; have BK854 := n4_; have GW854 := n5_; have GE854 := n6_; have NB0_854 := n7_; have NB854_0 := n8_; clear n0_ n1_ n2_ n3_ n4_ n5_ n6_ n7_ n8_; clear hb hbox hg; have hnb17 := NB854_0.out; have hnc17 := NB0_854.out; have hcz18_0 : w16.cell? ⟨gb854, 0, none⟩ = some (.int .i64 0) := (kc_' BK854.out 0).trans rfl; have hcz18_1 : w16.cell? ⟨gb854, 1, none⟩ = some (.int .i64 0) := (kc_' BK854.out 1).trans rfl; have hcz18_2 : w16.cell? ⟨gb854, 2, none⟩ = some (.int .i64 0) := (kc_' BK854.out 2).trans rfl; have hcz18_3 : w16.cell? ⟨gb854, 3, none⟩ = some (.int .i64 0) := (kc_' BK854.out 3).trans rfl; have hfz18_0 := kf_' BK854.out 0; have hfz18_1 := kf_' BK854.out 1; have hfz18_2 := kf_' BK854.out 2; have hfz18_3 := kf_' BK854.out 3) | ((with_reducible refine xj_' (f := 77) rfl ?_); refine goesL_ (some 34) rfl rfl Try.func77 (by kernel_rfl) rfl #[.pointer (some ⟨g, 0, none⟩), .int .i64 5] rfl (by (try simp only [xm_', xc_', xn_']); first | done | rfl | (simp only [xd_', xt_']; rfl)) ?_; (with_reducible refine (spec_l1Once.calls g s0_0 t852 t853 5 true t856 t857 w0 _ ?side1 ?side2 A11.out).mono ?_); (case side1 => repeat (first | (with_reducible first | exact HI0.out | apply IsS157.alloc | apply IsS157.drewN | apply IsS157.drew | apply IsS157.set_1 | apply IsS157.set_2 | refine IsS157.far ?_ NB0_854.out _) | exact HI0.out)); (case side2 => repeat (first | (with_reducible first | exact HB.out | apply pa_' | apply pn_' | apply pd_' | refine pt_' ?_ (IsS157.ge HI0.out) | refine pt_' ?_ GE854.out) | exact HB.out)); rintro e w19 ⟨rfl, hi, hb, hk⟩; refine ⟨_, rfl, ?_⟩; have n0_ := sk_' (xi_' (Kd.R_keep (IsS157.apart (show IsS157 w0 _ g s0_0 t852 t853 from by repeat (first | (with_reducible first | exact HI0.out | apply IsS157.alloc | apply IsS157.drewN | apply IsS157.drew | apply IsS157.set_1 | apply IsS157.set_2 | refine IsS157.far ?_ NB0_854.out _) | exact HI0.out)) (by (with_reducible repeat (first | apply ra_' | apply rn_' | apply rd1_')); exact (xi_' (Kd.R_far (p := ⟨gb854, 3, none⟩) (Kd.R_far (p := ⟨gb854, 2, none⟩) (Kd.R_far (p := ⟨gb854, 1, none⟩) (Kd.R_far (p := ⟨gb854, 0, none⟩) (xi_' HO_7.out (fun k_ hk => (⟨hk, hk.2⟩ : _ ∧ k_ ≠ gb854))) (fun _ hk => hk.2) (.int .i64 x8_1)) (fun _ hk => hk.2) (.int .i64 (wrap64 (6 * (wrap64 (1 + t848)))))) (fun _ hk => hk.2) (.int .i64 (wrap64 (60 + t851)))) (fun _ hk => hk.2) (.int .i64 a1)) (fun _ h_ => h_.1))) (by decide)) hk (fun _ h => h.2)) (fun _ h => h.1)); have n1_ := sk_' (KeepBut.blk hk (g' := gb854) (o := .cells #[.int .i64 x8_1, .int .i64 (wrap64 (6 * (wrap64 (1 + t848)))), .int .i64 (wrap64 (60 + t851)), .int .i64 a1] 26 (0, 0)) (by (with_reducible repeat (first | refine kn_' ?_ _ | refine kd_' ?_ | refine ka_' ?_ _)); refine blk_put (cs := #[.int .i64 x8_1, .int .i64 (wrap64 (6 * (wrap64 (1 + t848)))), .int .i64 (wrap64 (60 + t851)), .int .i64 0]) ?_ 3 _ rfl; (with_reducible repeat (first | refine kn_' ?_ _ | refine kd_' ?_ | refine ka_' ?_ _)); refine blk_put (cs := #[.int .i64 x8_1, .int .i64 (wrap64 (6 * (wrap64 (1 + t848)))), .int .i64 0, .int .i64 0]) ?_ 2 _ rfl; (with_reducible repeat (first | refine kn_' ?_ _ | refine kd_' ?_ | refine ka_' ?_ _)); refine blk_put (cs := #[.int .i64 x8_1, .int .i64 0, .int .i64 0, .int .i64 0]) ?_ 1 _ rfl; (with_reducible repeat (first | refine kn_' ?_ _ | refine kd_' ?_ | refine ka_' ?_ _)); refine blk_put (cs := #[.int .i64 0, .int .i64 0, .int .i64 0, .int .i64 0]) ?_ 0 _ rfl; (with_reducible repeat (first | refine kn_' ?_ _ | refine kd_' ?_ | refine ka_' ?_ _)); exact BK854.out) NB854_0.out (by simp)); have n2_ := sk_' (KeepBut.trans (by repeat (first | (with_reducible first | exact HK.out | apply KeepBut.set_ | apply keep_drewN | apply keep_drew | apply keep_alloc | refine keep_far ?_ GW854.out _) | exact HK.out)) hk (.inl rfl)); have n3_ := sk_' (hb); have n4_ := sk_' (hi); clear HO_7; clear BK854; clear HK; clear HB; clear HI0; have HO_7 := n0_; have BK854 := n1_; have HK := n2_; have HB := n3_; have HI0 := n4_; clear n0_ n1_ n2_ n3_ n4_; (try clear hb); (try clear hb2); (try clear hk); (try clear hi); have hcz20_0 : w19.cell? ⟨gb854, 0, none⟩ = some (.int .i64 x8_1) := (kc_' BK854.out 0).trans rfl; have hcz20_1 : w19.cell? ⟨gb854, 1, none⟩ = some (.int .i64 (wrap64 (6 * (wrap64 (1 + t848))))) := (kc_' BK854.out 1).trans rfl; have hcz20_2 : w19.cell? ⟨gb854, 2, none⟩ = some (.int .i64 (wrap64 (60 + t851))) := (kc_' BK854.out 2).trans rfl; have hcz20_3 : w19.cell? ⟨gb854, 3, none⟩ = some (.int .i64 a1) := (kc_' BK854.out 3).trans rfl; have hfz20_0 := kf_' BK854.out 0; have hfz20_1 := kf_' BK854.out 1; have hfz20_2 := kf_' BK854.out 2; have hfz20_3 := kf_' BK854.out 3; obtain ⟨Ao21, co21, eo21⟩ := Kd.R_slice HO_7.out; subst eo21) | ((with_reducible refine xj_' (f := 158) rfl ?_); refine goesL_ (some 40) rfl rfl Try.func158 (by kernel_rfl) rfl #[.slice Ao21 x7_1.length co21, .agg #[.int .i64 x8_1, .int .i64 (wrap64 (6 * (wrap64 (1 + t848)))), .int .i64 (wrap64 (60 + t851)), .int .i64 a1]] rfl (by (try simp only [xm_', xc_', xn_']); first | done | rfl | (simp only [xd_', xt_']; rfl)) ?_; (with_reducible refine (spec_PutEvent.calls k1 _ _ x7_1 x8_1 (wrap64 (6 * (wrap64 (1 + t848)))) (wrap64 (60 + t851)) a1 t858 t861 _ ?side1 ?side2 A13.out).mono ?_); (case side1 => repeat (first | exact (xr_' HO_7.out).2.2 | (with_reducible refine xg_' ?_ _) | (with_reducible refine xe_' ?_ _) | (with_reducible refine xf_' ?_))); (case side2 => exact (xr_' HO_7.out).2.1); rintro e w22 ⟨v859, rfl, ho0, hb⟩; refine ⟨_, rfl, ?_⟩; have n0_ := sk_' (Kd.R_elder' (by (with_reducible repeat (first | apply ra_' | apply rn_' | apply rd1_')); exact HO_7.out) (Kd.R_base ho0) hb); have n1_ := sk_' (Kd.R_lower (Kd.R_newB (Kd.R_new' ho0 (Kd.R_lt (by (with_reducible repeat (first | apply ra_' | apply rn_' | apply rd1_')); exact HO_7.out))) (g := gb854) (o := .cells #[.int .i64 x8_1, .int .i64 (wrap64 (6 * (wrap64 (1 + t848)))), .int .i64 (wrap64 (60 + t851)), .int .i64 a1] 26 (0, 0)) (by (with_reducible repeat (first | refine kn_' ?_ _ | refine kd_' ?_ | refine ka_' ?_ _)); exact BK854.out)) (keep_size (w := w) (g := g) (row := none) (by repeat (first | (with_reducible first | exact HK.out | apply KeepBut.set_ | apply keep_drewN | apply keep_drew | apply keep_alloc | refine keep_far ?_ GW854.out _) | exact HK.out)))); have n2_ := sk_' (IsS157.below (by repeat (first | (with_reducible first | exact HI0.out | apply IsS157.alloc | apply IsS157.drewN | apply IsS157.drew | apply IsS157.set_1 | apply IsS157.set_2 | refine IsS157.far ?_ NB0_854.out _) | exact HI0.out)) hb); have n3_ := sk_' (blk_below (g := gb854) (o := .cells #[.int .i64 x8_1, .int .i64 (wrap64 (6 * (wrap64 (1 + t848)))), .int .i64 (wrap64 (60 + t851)), .int .i64 a1] 26 (0, 0)) (by (with_reducible repeat (first | refine kn_' ?_ _ | refine kd_' ?_ | refine ka_' ?_ _)); exact BK854.out) hb); have n4_ := sk_' (KeepBut.trans (by repeat (first | (with_reducible first | exact HK.out | apply KeepBut.set_ | apply keep_drewN | apply keep_drew | apply keep_alloc | refine keep_far ?_ GW854.out _) | exact HK.out)) (KeepBut.of_below hb g none) (.inl rfl)); have n5_ := sk_' (pp_' (by repeat (first | (with_reducible first | exact HB.out | apply pa_' | apply pn_' | apply pd_' | refine pt_' ?_ (IsS157.ge HI0.out) | refine pt_' ?_ GE854.out) | exact HB.out)) hb); clear HO_7; clear HI0; clear BK854; clear HK; clear HB; have HO_7 := n0_; have HO860 := n1_; have HI0 := n2_; have BK854 := n3_; have HK := n4_; have HB := n5_; clear n0_ n1_ n2_ n3_ n4_ n5_; (try clear hb); (try clear hb2); (try clear hk); (try clear hi); (try clear ho0)))
     go_roundg k1
     case measure => have := HK1.out; omega
     case rel => exact ⟨(t858), (wrap64 ((wrap64 (x8_1 + (wrap64 (6 * (wrap64 (1 + t848)))))) + 12)), (wrap64 (x9_1 - 1)), (t856), (t857), (by first | rfl | (simp; done) | (simp [*]; done)), (by first | rfl | (simp; done) | (simp [*]; done)), H', ⟨by have := HK1.out; omega⟩, ⟨by (with_reducible repeat (first | apply ra_' | apply rn_' | apply rd1_')); exact xi_' HO860.out (fun _ hk => trivial)⟩, ⟨by repeat (first | (with_reducible first | exact HI0.out | apply IsS157.alloc | apply IsS157.drewN | apply IsS157.drew | apply IsS157.set_1 | apply IsS157.set_2 | refine IsS157.far ?_ NB0_854.out _) | exact HI0.out)⟩, ⟨by repeat (first | (with_reducible first | exact HK.out | apply KeepBut.set_ | apply keep_drewN | apply keep_drew | apply keep_alloc | refine keep_far ?_ GW854.out _) | exact HK.out)⟩, ⟨by repeat (first | (with_reducible first | exact HB.out | apply pa_' | apply pn_' | apply pd_' | refine pt_' ?_ (IsS157.ge HI0.out) | refine pt_' ?_ GE854.out) | exact HB.out)⟩⟩
    replace c12 := Bool.eq_false_iff.mpr c12
    subst c12
    rw [if_neg (show ¬ (false = true) by decide)] at H
    replace H := bs_' H
    obtain ⟨⟨t862, t865⟩, A230, H⟩ := H
    try dsimp only at H
    have A23 := sk_' A230
    clear A230
    have H' := sk_' H
    clear H
    go_wp2_with (first | ((with_reducible refine xj_' (f := 91) rfl ?_); refine goesL_ (some 21) rfl rfl Try.func91 (by kernel_rfl) rfl #[.pointer (some ⟨g, 0, none⟩), .int .i64 3] rfl (by (try simp only [xm_', xc_', xn_']); first | done | rfl | (simp only [xd_', xt_']; rfl)) ?_; (with_reducible refine (spec_l1Below.calls g s0_0 x1001_1 x1002_1 3 t848 t849 t850 w0 _ ?side1 ?side2 A9.out).mono ?_); (case side1 => repeat (first | (with_reducible first | exact HI0.out | apply IsS157.alloc | apply IsS157.drewN | apply IsS157.drew | apply IsS157.set_1 | apply IsS157.set_2) | exact HI0.out)); (case side2 => repeat (first | (with_reducible first | exact HB.out | apply pa_' | apply pn_' | apply pd_' | refine pt_' ?_ (IsS157.ge HI0.out)) | exact HB.out)); rintro e w24 ⟨rfl, hi, hb, hk⟩; refine ⟨_, rfl, ?_⟩; have n0_ := sk_' (xi_' (Kd.R_keep (IsS157.apart (show IsS157 w0 _ g s0_0 x1001_1 x1002_1 from by repeat (first | (with_reducible first | exact HI0.out | apply IsS157.alloc | apply IsS157.drewN | apply IsS157.drew | apply IsS157.set_1 | apply IsS157.set_2) | exact HI0.out)) (by (with_reducible repeat (first | apply ra_' | apply rn_' | apply rd1_')); exact HO_7.out) (by decide)) hk (fun _ h => h.2)) (fun _ h => h.1)); have n1_ := sk_' (KeepBut.trans (by repeat (first | (with_reducible first | exact HK.out | apply KeepBut.set_ | apply keep_drewN | apply keep_drew | apply keep_alloc) | exact HK.out)) hk (.inl rfl)); have n2_ := sk_' (hb); have n3_ := sk_' (hi); clear HO_7; clear HK; clear HB; clear HI0; have HO_7 := n0_; have HK := n1_; have HB := n2_; have HI0 := n3_; clear n0_ n1_ n2_ n3_; (try clear hb); (try clear hb2); (try clear hk); (try clear hi)) | ((with_reducible refine xj_' (f := 91) rfl ?_); refine goesL_ (some 25) rfl rfl Try.func91 (by kernel_rfl) rfl #[.pointer (some ⟨g, 0, none⟩), .int .i64 8] rfl (by (try simp only [xm_', xc_', xn_']); first | done | rfl | (simp only [xd_', xt_']; rfl)) ?_; (with_reducible refine (spec_l1Below.calls g s0_0 t849 t850 8 t851 t852 t853 w0 _ ?side1 ?side2 A10.out).mono ?_); (case side1 => repeat (first | (with_reducible first | exact HI0.out | apply IsS157.alloc | apply IsS157.drewN | apply IsS157.drew | apply IsS157.set_1 | apply IsS157.set_2) | exact HI0.out)); (case side2 => repeat (first | (with_reducible first | exact HB.out | apply pa_' | apply pn_' | apply pd_' | refine pt_' ?_ (IsS157.ge HI0.out)) | exact HB.out)); rintro e w25 ⟨rfl, hi, hb, hk⟩; refine ⟨_, rfl, ?_⟩; have n0_ := sk_' (xi_' (Kd.R_keep (IsS157.apart (show IsS157 w0 _ g s0_0 t849 t850 from by repeat (first | (with_reducible first | exact HI0.out | apply IsS157.alloc | apply IsS157.drewN | apply IsS157.drew | apply IsS157.set_1 | apply IsS157.set_2) | exact HI0.out)) (by (with_reducible repeat (first | apply ra_' | apply rn_' | apply rd1_')); exact HO_7.out) (by decide)) hk (fun _ h => h.2)) (fun _ h => h.1)); have n1_ := sk_' (KeepBut.trans (by repeat (first | (with_reducible first | exact HK.out | apply KeepBut.set_ | apply keep_drewN | apply keep_drew | apply keep_alloc) | exact HK.out)) hk (.inl rfl)); have n2_ := sk_' (hb); have n3_ := sk_' (hi); clear HO_7; clear HK; clear HB; clear HI0; have HO_7 := n0_; have HK := n1_; have HB := n2_; have HI0 := n3_; clear n0_ n1_ n2_ n3_; (try clear hb); (try clear hb2); (try clear hk); (try clear hi)) | ((with_reducible refine gate_dst (N := 10) rfl ?_); refine box_event ?hg (N := 10) ?hd (cs := #[.int .i64 0, .int .i64 0, .int .i64 0, .int .i64 0]) (t := 26) ?hr ?_; (case hd => rfl); (case hg => rfl); (case hr => first | (go_simp; done) | (go_simp; rfl)); intro gb854 hg w26 hbox hb; have n0_ := sk_' (xb_' (Kd.R_elderB (by (with_reducible repeat (first | apply ra_' | apply rn_' | apply rd1_')); exact HO_7.out) gb854 (Nat.le_of_eq hg.symm)) hb); have n1_ := sk_' (IsS157.below (by repeat (first | (with_reducible first | exact HI0.out | apply IsS157.alloc | apply IsS157.drewN | apply IsS157.drew | apply IsS157.set_1 | apply IsS157.set_2) | exact HI0.out)) hb); have n2_ := sk_' (KeepBut.trans (by repeat (first | (with_reducible first | exact HK.out | apply KeepBut.set_ | apply keep_drewN | apply keep_drew | apply keep_alloc) | exact HK.out)) (KeepBut.of_below hb g none) (.inl rfl)); have n3_ := sk_' (pp_' (by repeat (first | (with_reducible first | exact HB.out | apply pa_' | apply pn_' | apply pd_' | refine pt_' ?_ (IsS157.ge HI0.out)) | exact HB.out)) hb); have n4_ := sk_' (hbox); have n5_ := sk_' ((by rw [hg]; exact (keep_size (w := w) (g := g) (row := none) (by repeat (first | (with_reducible first | exact HK.out | apply KeepBut.set_ | apply keep_drewN | apply keep_drew | apply keep_alloc) | exact HK.out))) : w.heap.size ≤ gb854)); have n6_ := sk_' ((Nat.le_trans HW0.out (by rw [hg]; exact (keep_size (w := w) (g := g) (row := none) (by repeat (first | (with_reducible first | exact HK.out | apply KeepBut.set_ | apply keep_drewN | apply keep_drew | apply keep_alloc) | exact HK.out))) : w.heap.size ≤ gb854) : w0.heap.size ≤ gb854)); have n7_ := sk_' ((by rw [hg]; exact Nat.ne_of_lt (IsS157.lt (show IsS157 w0 _ g s0_0 t852 t853 from by repeat (first | (with_reducible first | exact HI0.out | apply IsS157.alloc | apply IsS157.drewN | apply IsS157.drew | apply IsS157.set_1 | apply IsS157.set_2) | exact HI0.out))) : g ≠ gb854)); have n8_ := sk_' ((by rw [hg]; exact Nat.ne_of_gt (IsS157.lt (show IsS157 w0 _ g s0_0 t852 t853 from by repeat (first | (with_reducible first | exact HI0.out | apply IsS157.alloc | apply IsS157.drewN | apply IsS157.drew | apply IsS157.set_1 | apply IsS157.set_2) | exact HI0.out))) : gb854 ≠ g)); clear HO_7; clear HI0; clear HK; clear HB; have HO_7 := n0_; have HI0 := n1_; have HK := n2_; have HB := n3_; have BK854 := n4_; have GW854 := n5_; have GE854 := n6_; have NB0_854 := n7_; have NB854_0 := n8_; clear n0_ n1_ n2_ n3_ n4_ n5_ n6_ n7_ n8_; clear hb hbox hg; have hnb27 := NB854_0.out; have hnc27 := NB0_854.out; have hcz28_0 : w26.cell? ⟨gb854, 0, none⟩ = some (.int .i64 0) := (kc_' BK854.out 0).trans rfl; have hcz28_1 : w26.cell? ⟨gb854, 1, none⟩ = some (.int .i64 0) := (kc_' BK854.out 1).trans rfl; have hcz28_2 : w26.cell? ⟨gb854, 2, none⟩ = some (.int .i64 0) := (kc_' BK854.out 2).trans rfl; have hcz28_3 : w26.cell? ⟨gb854, 3, none⟩ = some (.int .i64 0) := (kc_' BK854.out 3).trans rfl; have hfz28_0 := kf_' BK854.out 0; have hfz28_1 := kf_' BK854.out 1; have hfz28_2 := kf_' BK854.out 2; have hfz28_3 := kf_' BK854.out 3) | ((with_reducible refine xj_' (f := 77) rfl ?_); refine goesL_ (some 34) rfl rfl Try.func77 (by kernel_rfl) rfl #[.pointer (some ⟨g, 0, none⟩), .int .i64 5] rfl (by (try simp only [xm_', xc_', xn_']); first | done | rfl | (simp only [xd_', xt_']; rfl)) ?_; (with_reducible refine (spec_l1Once.calls g s0_0 t852 t853 5 false t856 t857 w0 _ ?side1 ?side2 A11.out).mono ?_); (case side1 => repeat (first | (with_reducible first | exact HI0.out | apply IsS157.alloc | apply IsS157.drewN | apply IsS157.drew | apply IsS157.set_1 | apply IsS157.set_2 | refine IsS157.far ?_ NB0_854.out _) | exact HI0.out)); (case side2 => repeat (first | (with_reducible first | exact HB.out | apply pa_' | apply pn_' | apply pd_' | refine pt_' ?_ (IsS157.ge HI0.out) | refine pt_' ?_ GE854.out) | exact HB.out)); rintro e w29 ⟨rfl, hi, hb, hk⟩; refine ⟨_, rfl, ?_⟩; have n0_ := sk_' (xi_' (Kd.R_keep (IsS157.apart (show IsS157 w0 _ g s0_0 t852 t853 from by repeat (first | (with_reducible first | exact HI0.out | apply IsS157.alloc | apply IsS157.drewN | apply IsS157.drew | apply IsS157.set_1 | apply IsS157.set_2 | refine IsS157.far ?_ NB0_854.out _) | exact HI0.out)) (by (with_reducible repeat (first | apply ra_' | apply rn_' | apply rd1_')); exact (xi_' (Kd.R_far (p := ⟨gb854, 3, none⟩) (Kd.R_far (p := ⟨gb854, 2, none⟩) (Kd.R_far (p := ⟨gb854, 1, none⟩) (Kd.R_far (p := ⟨gb854, 0, none⟩) (xi_' HO_7.out (fun k_ hk => (⟨hk, hk.2⟩ : _ ∧ k_ ≠ gb854))) (fun _ hk => hk.2) (.int .i64 x8_1)) (fun _ hk => hk.2) (.int .i64 (wrap64 (6 * (wrap64 (1 + t848)))))) (fun _ hk => hk.2) (.int .i64 (wrap64 (60 + t851)))) (fun _ hk => hk.2) (.int .i64 a1)) (fun _ h_ => h_.1))) (by decide)) hk (fun _ h => h.2)) (fun _ h => h.1)); have n1_ := sk_' (KeepBut.blk hk (g' := gb854) (o := .cells #[.int .i64 x8_1, .int .i64 (wrap64 (6 * (wrap64 (1 + t848)))), .int .i64 (wrap64 (60 + t851)), .int .i64 a1] 26 (0, 0)) (by (with_reducible repeat (first | refine kn_' ?_ _ | refine kd_' ?_ | refine ka_' ?_ _)); refine blk_put (cs := #[.int .i64 x8_1, .int .i64 (wrap64 (6 * (wrap64 (1 + t848)))), .int .i64 (wrap64 (60 + t851)), .int .i64 0]) ?_ 3 _ rfl; (with_reducible repeat (first | refine kn_' ?_ _ | refine kd_' ?_ | refine ka_' ?_ _)); refine blk_put (cs := #[.int .i64 x8_1, .int .i64 (wrap64 (6 * (wrap64 (1 + t848)))), .int .i64 0, .int .i64 0]) ?_ 2 _ rfl; (with_reducible repeat (first | refine kn_' ?_ _ | refine kd_' ?_ | refine ka_' ?_ _)); refine blk_put (cs := #[.int .i64 x8_1, .int .i64 0, .int .i64 0, .int .i64 0]) ?_ 1 _ rfl; (with_reducible repeat (first | refine kn_' ?_ _ | refine kd_' ?_ | refine ka_' ?_ _)); refine blk_put (cs := #[.int .i64 0, .int .i64 0, .int .i64 0, .int .i64 0]) ?_ 0 _ rfl; (with_reducible repeat (first | refine kn_' ?_ _ | refine kd_' ?_ | refine ka_' ?_ _)); exact BK854.out) NB854_0.out (by simp)); have n2_ := sk_' (KeepBut.trans (by repeat (first | (with_reducible first | exact HK.out | apply KeepBut.set_ | apply keep_drewN | apply keep_drew | apply keep_alloc | refine keep_far ?_ GW854.out _) | exact HK.out)) hk (.inl rfl)); have n3_ := sk_' (hb); have n4_ := sk_' (hi); clear HO_7; clear BK854; clear HK; clear HB; clear HI0; have HO_7 := n0_; have BK854 := n1_; have HK := n2_; have HB := n3_; have HI0 := n4_; clear n0_ n1_ n2_ n3_ n4_; (try clear hb); (try clear hb2); (try clear hk); (try clear hi); have hcz30_0 : w29.cell? ⟨gb854, 0, none⟩ = some (.int .i64 x8_1) := (kc_' BK854.out 0).trans rfl; have hcz30_1 : w29.cell? ⟨gb854, 1, none⟩ = some (.int .i64 (wrap64 (6 * (wrap64 (1 + t848))))) := (kc_' BK854.out 1).trans rfl; have hcz30_2 : w29.cell? ⟨gb854, 2, none⟩ = some (.int .i64 (wrap64 (60 + t851))) := (kc_' BK854.out 2).trans rfl; have hcz30_3 : w29.cell? ⟨gb854, 3, none⟩ = some (.int .i64 a1) := (kc_' BK854.out 3).trans rfl; have hfz30_0 := kf_' BK854.out 0; have hfz30_1 := kf_' BK854.out 1; have hfz30_2 := kf_' BK854.out 2; have hfz30_3 := kf_' BK854.out 3; obtain ⟨Ao31, co31, eo31⟩ := Kd.R_slice HO_7.out; subst eo31) | ((with_reducible refine xj_' (f := 158) rfl ?_); refine goesL_ (some 40) rfl rfl Try.func158 (by kernel_rfl) rfl #[.slice Ao31 x7_1.length co31, .agg #[.int .i64 x8_1, .int .i64 (wrap64 (6 * (wrap64 (1 + t848)))), .int .i64 (wrap64 (60 + t851)), .int .i64 a1]] rfl (by (try simp only [xm_', xc_', xn_']); first | done | rfl | (simp only [xd_', xt_']; rfl)) ?_; (with_reducible refine (spec_PutEvent.calls k1 _ _ x7_1 x8_1 (wrap64 (6 * (wrap64 (1 + t848)))) (wrap64 (60 + t851)) a1 t862 t865 _ ?side1 ?side2 A23.out).mono ?_); (case side1 => repeat (first | exact (xr_' HO_7.out).2.2 | (with_reducible refine xg_' ?_ _) | (with_reducible refine xe_' ?_ _) | (with_reducible refine xf_' ?_))); (case side2 => exact (xr_' HO_7.out).2.1); rintro e w32 ⟨v863, rfl, ho0, hb⟩; refine ⟨_, rfl, ?_⟩; have n0_ := sk_' (Kd.R_elder' (by (with_reducible repeat (first | apply ra_' | apply rn_' | apply rd1_')); exact HO_7.out) (Kd.R_base ho0) hb); have n1_ := sk_' (Kd.R_lower (Kd.R_newB (Kd.R_new' ho0 (Kd.R_lt (by (with_reducible repeat (first | apply ra_' | apply rn_' | apply rd1_')); exact HO_7.out))) (g := gb854) (o := .cells #[.int .i64 x8_1, .int .i64 (wrap64 (6 * (wrap64 (1 + t848)))), .int .i64 (wrap64 (60 + t851)), .int .i64 a1] 26 (0, 0)) (by (with_reducible repeat (first | refine kn_' ?_ _ | refine kd_' ?_ | refine ka_' ?_ _)); exact BK854.out)) (keep_size (w := w) (g := g) (row := none) (by repeat (first | (with_reducible first | exact HK.out | apply KeepBut.set_ | apply keep_drewN | apply keep_drew | apply keep_alloc | refine keep_far ?_ GW854.out _) | exact HK.out)))); have n2_ := sk_' (IsS157.below (by repeat (first | (with_reducible first | exact HI0.out | apply IsS157.alloc | apply IsS157.drewN | apply IsS157.drew | apply IsS157.set_1 | apply IsS157.set_2 | refine IsS157.far ?_ NB0_854.out _) | exact HI0.out)) hb); have n3_ := sk_' (blk_below (g := gb854) (o := .cells #[.int .i64 x8_1, .int .i64 (wrap64 (6 * (wrap64 (1 + t848)))), .int .i64 (wrap64 (60 + t851)), .int .i64 a1] 26 (0, 0)) (by (with_reducible repeat (first | refine kn_' ?_ _ | refine kd_' ?_ | refine ka_' ?_ _)); exact BK854.out) hb); have n4_ := sk_' (KeepBut.trans (by repeat (first | (with_reducible first | exact HK.out | apply KeepBut.set_ | apply keep_drewN | apply keep_drew | apply keep_alloc | refine keep_far ?_ GW854.out _) | exact HK.out)) (KeepBut.of_below hb g none) (.inl rfl)); have n5_ := sk_' (pp_' (by repeat (first | (with_reducible first | exact HB.out | apply pa_' | apply pn_' | apply pd_' | refine pt_' ?_ (IsS157.ge HI0.out) | refine pt_' ?_ GE854.out) | exact HB.out)) hb); clear HO_7; clear HI0; clear BK854; clear HK; clear HB; have HO_7 := n0_; have HO864 := n1_; have HI0 := n2_; have BK854 := n3_; have HK := n4_; have HB := n5_; clear n0_ n1_ n2_ n3_ n4_ n5_; (try clear hb); (try clear hb2); (try clear hk); (try clear hi); (try clear ho0)))
    go_roundg k1
    case measure => have := HK1.out; omega
    case rel => exact ⟨(t862), (wrap64 (x8_1 + (wrap64 (6 * (wrap64 (1 + t848)))))), (wrap64 (x9_1 - 1)), (t856), (t857), (by first | rfl | (simp; done) | (simp [*]; done)), (by first | rfl | (simp; done) | (simp [*]; done)), H', ⟨by have := HK1.out; omega⟩, ⟨by (with_reducible repeat (first | apply ra_' | apply rn_' | apply rd1_')); exact xi_' HO864.out (fun _ hk => trivial)⟩, ⟨by repeat (first | (with_reducible first | exact HI0.out | apply IsS157.alloc | apply IsS157.drewN | apply IsS157.drew | apply IsS157.set_1 | apply IsS157.set_2 | refine IsS157.far ?_ NB0_854.out _) | exact HI0.out)⟩, ⟨by repeat (first | (with_reducible first | exact HK.out | apply KeepBut.set_ | apply keep_drewN | apply keep_drew | apply keep_alloc | refine keep_far ?_ GW854.out _) | exact HK.out)⟩, ⟨by repeat (first | (with_reducible first | exact HB.out | apply pa_' | apply pn_' | apply pd_' | refine pt_' ?_ (IsS157.ge HI0.out) | refine pt_' ?_ GE854.out) | exact HB.out)⟩⟩
   rw [if_neg c8] at H
   have c8b0 : decide (0 < x9_1) = false := decide_eq_false c8
   clear c8
   simp only [Option.some.injEq, Prod.mk.injEq] at H
   obtain ⟨rfl, rfl, rfl⟩ := H
   go_wp2
   go_ret
   exact ⟨_, by first | rfl | (simp [errW_none, errW_some] <;> rfl) | (simp [*, errW_none, errW_some] <;> rfl), by (with_reducible repeat (first | apply ra_' | apply rn_' | apply rd1_')); exact HO_7.out, by repeat (first | (with_reducible first | exact HI0.out | apply IsS157.alloc | apply IsS157.drewN | apply IsS157.drew | apply IsS157.set_1 | apply IsS157.set_2) | exact HI0.out), by repeat (first | (with_reducible first | exact HB.out | apply pa_' | apply pn_' | apply pd_' | refine pt_' ?_ (IsS157.ge HI0.out)) | exact HB.out), by repeat (first | (with_reducible first | exact HK.out | apply KeepBut.set_ | apply keep_drewN | apply keep_drew | apply keep_alloc) | exact HK.out)⟩
end Go.Proofs.Ytbhlmeghbfmgiaa.F

namespace Go.Proofs.Ytbhlmeghbfmgiaa.F
open Go.RowKit Go.Proofs.YtbhlmeghbfmgiaaW.PrintWords Go.Proofs.YtbhlmeghbfmgiaaW.PrintLast Go.Proofs.YtbhlmeghbfmgiaaW.PrintMore
attribute [local go_sem] max2_int min2_int max_two min_two max_three min_three max_four min_four
set_option linter.unusedVariables false
set_option linter.unusedSimpArgs false
def spec_l13Score.l0 : Nat → List (S26) → List (S26) → Int → List Int → Int → Int → Option ((List (S26)) × Int × Int)
 | 0, _, _, _, _, _, _ => none
 | k + 1, x3, x4, x5, x1000, x1001, x1002 => if x5 < (x4.length : Int) then (if 0 ≤ x5 then ((spec_PutEvent.f k x3 ((rd_T26 x4 x5).f0) ((rd_T26 x4 x5).f1) ((rd_T26 x4 x5).f2) ((rd_T26 x4 x5).f3)).bind fun bt877 => (spec_l13Score.l0 k bt877.1 x4 (wrap64 (x5 + 1)) x1000 x1001 x1002)) else (none)) else (some (x3, x1001, x1002))
def spec_l13Score.f (k : Nat) (s0_0 : List Int) (s0_1 : Int) (s0_2 : Int) : Option ((List (S26)) × Int × Int) := (spec_l8Tune.f k s0_0 s0_1 s0_2 1 9).bind fun bt866 => ((spec_l8Tune.f k s0_0 bt866.2.1 bt866.2.2 2 9).bind fun bt871 => (spec_l13Score.l0 k bt866.1 bt871.1 0 s0_0 bt871.2.1 bt871.2.2))
set_option maxHeartbeats 8000000 in
set_option maxRecDepth 100000 in
theorem spec_l13Score.calls (k : Nat) (g : Nat) (s0_0 : List Int) (s0_1 : Int) (s0_2 : Int) (r1 : List (S26)) (r2 : Int) (r3 : Int) (w0 w : World) (hI : IsS157 w0 w g s0_0 s0_1 s0_2) (hB : Below w0.heap.size w0 w) (h : spec_l13Score.f k s0_0 s0_1 s0_2 = some (r1, r2, r3)) :
  Calls Try.prog 125 #[.pointer (some ⟨g, 0, none⟩)] w fun e w' => ∃ v0_ : Value, e = .returned (v0_) ∧ Kd.R k26 26 w' w.heap.size (fun _ => True) v0_ r1 ∧ IsS157 w0 w' g s0_0 r2 r3 ∧ Below w0.heap.size w0 w' ∧ KeepBut w w' g none := by
 have hu26 := Try.underlying26
 have HI0 := sk_' hI
 have HK := sk_' (KeepBut.refl w g none)
 have HL := sk_' hB.size
 clear hI
 have HW0 := sk_' hB.size
 have HB := sk_' hB
 clear hB
 have H : ((spec_l8Tune.f k s0_0 s0_1 s0_2 1 9).bind fun bt866 => ((spec_l8Tune.f k s0_0 bt866.2.1 bt866.2.2 2 9).bind fun bt871 => (spec_l13Score.l0 k bt866.1 bt871.1 0 s0_0 bt871.2.1 bt871.2.2))) = some (r1, r2, r3) := h
 clear h
 replace H := bs_' H
 obtain ⟨⟨t866, t869, t870⟩, A20, H⟩ := H
 try dsimp only at H
 have A2 := sk_' A20
 clear A20
 replace H := bs_' H
 obtain ⟨⟨t871, t874, t875⟩, A30, H⟩ := H
 try dsimp only at H
 have A3 := sk_' A30
 clear A30
 have H' := sk_' H
 clear H
 go_enter Try.func125, Try.ntmps125
 go_wp2_with (first | ((with_reducible refine xj_' (f := 157) rfl ?_); refine goesL_ (some 7) rfl rfl Try.func157 (by kernel_rfl) rfl #[.pointer (some ⟨g, 0, none⟩), .int .i64 1, .int .i64 9] rfl (by (try simp only [xm_', xc_', xn_']); first | done | rfl | (simp only [xd_', xt_']; rfl)) ?_; (with_reducible refine (spec_l8Tune.calls k g s0_0 s0_1 s0_2 1 9 t866 t869 t870 w0 _ ?side1 ?side2 A2.out).mono ?_); (case side1 => repeat (first | (with_reducible first | exact HI0.out | apply IsS157.alloc | apply IsS157.drewN | apply IsS157.drew | apply IsS157.set_1 | apply IsS157.set_2) | exact HI0.out)); (case side2 => repeat (first | (with_reducible first | exact HB.out | apply pa_' | apply pn_' | apply pd_' | refine pt_' ?_ (IsS157.ge HI0.out)) | exact HB.out)); rintro e w4 ⟨v867, rfl, ho0, hi, hb, hk⟩; refine ⟨_, rfl, ?_⟩; have n0_ := sk_' (Kd.R_lower ho0 (keep_size (w := w) (g := g) (row := none) (by repeat (first | (with_reducible first | exact HK.out | apply KeepBut.set_ | apply keep_drewN | apply keep_drew | apply keep_alloc) | exact HK.out)))); have n1_ := sk_' (KeepBut.trans (by repeat (first | (with_reducible first | exact HK.out | apply KeepBut.set_ | apply keep_drewN | apply keep_drew | apply keep_alloc) | exact HK.out)) hk (.inl rfl)); have n2_ := sk_' (hb); have n3_ := sk_' (hi); clear HK; clear HB; clear HI0; have HO868 := n0_; have HK := n1_; have HB := n2_; have HI0 := n3_; clear n0_ n1_ n2_ n3_; (try clear hb); (try clear hb2); (try clear hk); (try clear hi); (try clear ho0)) | ((with_reducible refine xj_' (f := 157) rfl ?_); refine goesL_ (some 9) rfl rfl Try.func157 (by kernel_rfl) rfl #[.pointer (some ⟨g, 0, none⟩), .int .i64 2, .int .i64 9] rfl (by (try simp only [xm_', xc_', xn_']); first | done | rfl | (simp only [xd_', xt_']; rfl)) ?_; (with_reducible refine (spec_l8Tune.calls k g s0_0 t869 t870 2 9 t871 t874 t875 w0 _ ?side1 ?side2 A3.out).mono ?_); (case side1 => repeat (first | (with_reducible first | exact HI0.out | apply IsS157.alloc | apply IsS157.drewN | apply IsS157.drew | apply IsS157.set_1 | apply IsS157.set_2) | exact HI0.out)); (case side2 => repeat (first | (with_reducible first | exact HB.out | apply pa_' | apply pn_' | apply pd_' | refine pt_' ?_ (IsS157.ge HI0.out)) | exact HB.out)); rintro e w5 ⟨v872, rfl, ho0, hi, hb, hk⟩; refine ⟨_, rfl, ?_⟩; have n0_ := sk_' (xi_' (Kd.R_told (Kd.R_oldK (IsS157.apart (show IsS157 w0 _ g s0_0 t869 t870 from by repeat (first | (with_reducible first | exact HI0.out | apply IsS157.alloc | apply IsS157.drewN | apply IsS157.drew | apply IsS157.set_1 | apply IsS157.set_2) | exact HI0.out)) (by (with_reducible repeat (first | apply ra_' | apply rn_' | apply rd1_')); exact HO868.out) (by decide)) hk) (Kd.R_base ho0)) (fun _ h_ => h_.1)); have n1_ := sk_' (Kd.R_lower (Kd.R_new' ho0 (Kd.R_lt (by (with_reducible repeat (first | apply ra_' | apply rn_' | apply rd1_')); exact HO868.out))) (keep_size (w := w) (g := g) (row := none) (by repeat (first | (with_reducible first | exact HK.out | apply KeepBut.set_ | apply keep_drewN | apply keep_drew | apply keep_alloc) | exact HK.out)))); have n2_ := sk_' (KeepBut.trans (by repeat (first | (with_reducible first | exact HK.out | apply KeepBut.set_ | apply keep_drewN | apply keep_drew | apply keep_alloc) | exact HK.out)) hk (.inl rfl)); have n3_ := sk_' (hb); have n4_ := sk_' (hi); clear HO868; clear HK; clear HB; clear HI0; have HO868 := n0_; have HO873 := n1_; have HK := n2_; have HB := n3_; have HI0 := n4_; clear n0_ n1_ n2_ n3_ n4_; (try clear hb); (try clear hb2); (try clear hk); (try clear hi); (try clear ho0)))
 go_loopg [3, 5] k (fun kq v3 v5 w' => ∃ (x3_1 : List (S26)) (x5_1 : Int), v5 = .int .i64 x5_1 ∧ Aside0 (spec_l13Score.l0 kq x3_1 t871 x5_1 s0_0 t874 t875 = some (r1, r2, r3)) ∧ Aside0 (kq ≤ k) ∧ Aside0 (Kd.R k26 26 w' w.heap.size (fun k_ => some k_ ≠ (v872 : Value).ownBlock) v3 x3_1) ∧ Aside0 (Kd.R k26 26 w' w.heap.size (fun k_ => some k_ ≠ (v3 : Value).ownBlock) v872 t871) ∧ Aside0 (IsS157 w0 w' g s0_0 t874 t875) ∧ Aside0 (KeepBut w w' g none) ∧ Aside0 (Below w0.heap.size w0 w'))
 case atStart => exact ⟨(t866), (0), (by first | rfl | (simp; done) | (simp [*]; done)), H', ⟨Nat.le_refl _⟩, ⟨by (with_reducible repeat (first | apply ra_' | apply rn_' | apply rd1_')); exact xi_' HO868.out (fun _ hk => hk.2)⟩, ⟨by (with_reducible repeat (first | apply ra_' | apply rn_' | apply rd1_')); exact xi_' HO873.out (fun _ hk => hk.2)⟩, ⟨by repeat (first | (with_reducible first | exact HI0.out | apply IsS157.alloc | apply IsS157.drewN | apply IsS157.drew | apply IsS157.set_1 | apply IsS157.set_2) | exact HI0.out)⟩, ⟨by repeat (first | (with_reducible first | exact HK.out | apply KeepBut.set_ | apply keep_drewN | apply keep_drew | apply keep_alloc) | exact HK.out)⟩, ⟨by repeat (first | (with_reducible first | exact HB.out | apply pa_' | apply pn_' | apply pd_' | refine pt_' ?_ (IsS157.ge HI0.out)) | exact HB.out)⟩⟩
 case round =>
  clear H'
  try clear c1
  try clear p2
  obtain ⟨x3_1, x5_1, rfl, HA, HK1, HO_3, HO_4, HI0, HK, HB⟩ := hrel
  cases gk with
  | zero => exact absurd HA.out (by simp [spec_l13Score.l0])
  | succ k1 =>
   have H := HA.out
   clear HA
   simp only [spec_l13Score.l0] at H
   by_cases c6 : x5_1 < (t871.length : Int)
   ·
    rw [if_pos c6] at H
    have c6b0 : decide (x5_1 < (t871.length : Int)) = true := decide_eq_true c6
    clear c6
    by_cases c7 : 0 ≤ x5_1
    ·
     rw [if_pos c7] at H
     have c7b0 : decide (0 ≤ x5_1) = true := decide_eq_true c7
     clear c7
     replace H := bs_' H
     obtain ⟨⟨t877, t880⟩, A80, H⟩ := H
     try dsimp only at H
     have A8 := sk_' A80
     clear A80
     have H' := sk_' H
     clear H
     obtain ⟨Ao9, co9, eo9⟩ := Kd.R_slice HO_4.out
     subst eo9
     have p876 : 0 ≤ (x5_1 : Int) := od_' (by first | (with_reducible assumption) | assumption)
     have q876 : x5_1 < (t871.length : Int) := od_' (by first | (with_reducible assumption) | assumption)
     obtain ⟨ad876, e876, hx876_0, hx876_1, hx876_2, hx876_3⟩ := at_T26 (xr_' HO_4.out).2.2 x5_1 p876 q876
     cases e876
     replace p876 := eq_true p876
     replace q876 := eq_true q876
     obtain ⟨Ao10, co10, eo10⟩ := Kd.R_slice HO_3.out
     subst eo10
     go_wp2_with (first | ((with_reducible refine xj_' (f := 158) rfl ?_); refine goesL_ (some 22) rfl rfl Try.func158 (by kernel_rfl) rfl #[.slice Ao10 x3_1.length co10, .agg #[.int .i64 ((rd_T26 t871 x5_1).f0), .int .i64 ((rd_T26 t871 x5_1).f1), .int .i64 ((rd_T26 t871 x5_1).f2), .int .i64 ((rd_T26 t871 x5_1).f3)]] rfl (by (try simp only [xm_', xc_', xn_']); first | done | rfl | (simp only [xd_', xt_']; rfl)) ?_; (with_reducible refine (spec_PutEvent.calls k1 _ _ x3_1 ((rd_T26 t871 x5_1).f0) ((rd_T26 t871 x5_1).f1) ((rd_T26 t871 x5_1).f2) ((rd_T26 t871 x5_1).f3) t877 t880 _ ?side1 ?side2 A8.out).mono ?_); (case side1 => repeat (first | exact (xr_' HO_3.out).2.2 | (with_reducible refine xg_' ?_ _) | (with_reducible refine xe_' ?_ _) | (with_reducible refine xf_' ?_))); (case side2 => exact (xr_' HO_3.out).2.1); rintro e w11 ⟨v878, rfl, ho0, hb⟩; refine ⟨_, rfl, ?_⟩; have n0_ := sk_' (Kd.R_elder' (by (with_reducible repeat (first | apply ra_' | apply rn_' | apply rd1_')); exact HO_3.out) (Kd.R_base ho0) hb); have n1_ := sk_' (Kd.R_elder' (by (with_reducible repeat (first | apply ra_' | apply rn_' | apply rd1_')); exact HO_4.out) (Kd.R_base ho0) hb); have n2_ := sk_' (Kd.R_lower (Kd.R_new' (Kd.R_new' ho0 (Kd.R_lt (by (with_reducible repeat (first | apply ra_' | apply rn_' | apply rd1_')); exact HO_3.out))) (Kd.R_lt (by (with_reducible repeat (first | apply ra_' | apply rn_' | apply rd1_')); exact HO_4.out))) (keep_size (w := w) (g := g) (row := none) (by repeat (first | (with_reducible first | exact HK.out | apply KeepBut.set_ | apply keep_drewN | apply keep_drew | apply keep_alloc) | exact HK.out)))); have n3_ := sk_' (IsS157.below (by repeat (first | (with_reducible first | exact HI0.out | apply IsS157.alloc | apply IsS157.drewN | apply IsS157.drew | apply IsS157.set_1 | apply IsS157.set_2) | exact HI0.out)) hb); have n4_ := sk_' (KeepBut.trans (by repeat (first | (with_reducible first | exact HK.out | apply KeepBut.set_ | apply keep_drewN | apply keep_drew | apply keep_alloc) | exact HK.out)) (KeepBut.of_below hb g none) (.inl rfl)); have n5_ := sk_' (pp_' (by repeat (first | (with_reducible first | exact HB.out | apply pa_' | apply pn_' | apply pd_' | refine pt_' ?_ (IsS157.ge HI0.out)) | exact HB.out)) hb); clear HO_3; clear HO_4; clear HI0; clear HK; clear HB; have HO_3 := n0_; have HO_4 := n1_; have HO879 := n2_; have HI0 := n3_; have HK := n4_; have HB := n5_; clear n0_ n1_ n2_ n3_ n4_ n5_; (try clear hb); (try clear hb2); (try clear hk); (try clear hi); (try clear ho0)))
     go_roundg k1
     case measure => have := HK1.out; omega
     case rel => exact ⟨(t877), (wrap64 (x5_1 + 1)), (by first | rfl | (simp; done) | (simp [*]; done)), H', ⟨by have := HK1.out; omega⟩, ⟨by (with_reducible repeat (first | apply ra_' | apply rn_' | apply rd1_')); exact xi_' HO879.out (fun _ hk => hk.2)⟩, ⟨by (with_reducible repeat (first | apply ra_' | apply rn_' | apply rd1_')); exact xi_' HO_4.out (fun _ hk => hk.2)⟩, ⟨by repeat (first | (with_reducible first | exact HI0.out | apply IsS157.alloc | apply IsS157.drewN | apply IsS157.drew | apply IsS157.set_1 | apply IsS157.set_2) | exact HI0.out)⟩, ⟨by repeat (first | (with_reducible first | exact HK.out | apply KeepBut.set_ | apply keep_drewN | apply keep_drew | apply keep_alloc) | exact HK.out)⟩, ⟨by repeat (first | (with_reducible first | exact HB.out | apply pa_' | apply pn_' | apply pd_' | refine pt_' ?_ (IsS157.ge HI0.out)) | exact HB.out)⟩⟩
    rw [if_neg c7] at H
    exact absurd H (by simp)
   rw [if_neg c6] at H
   have c6b0 : decide (x5_1 < (t871.length : Int)) = false := decide_eq_false c6
   clear c6
   simp only [Option.some.injEq, Prod.mk.injEq] at H
   obtain ⟨rfl, rfl, rfl⟩ := H
   obtain ⟨Ao12, co12, eo12⟩ := Kd.R_slice HO_4.out
   subst eo12
   go_wp2
   go_ret
   exact ⟨_, by first | rfl | (simp [errW_none, errW_some] <;> rfl) | (simp [*, errW_none, errW_some] <;> rfl), by (with_reducible repeat (first | apply ra_' | apply rn_' | apply rd1_')); exact xi_' HO_3.out (fun _ hk => trivial), by repeat (first | (with_reducible first | exact HI0.out | apply IsS157.alloc | apply IsS157.drewN | apply IsS157.drew | apply IsS157.set_1 | apply IsS157.set_2) | exact HI0.out), by repeat (first | (with_reducible first | exact HB.out | apply pa_' | apply pn_' | apply pd_' | refine pt_' ?_ (IsS157.ge HI0.out)) | exact HB.out), by repeat (first | (with_reducible first | exact HK.out | apply KeepBut.set_ | apply keep_drewN | apply keep_drew | apply keep_alloc) | exact HK.out)⟩
end Go.Proofs.Ytbhlmeghbfmgiaa.F

namespace Go.Proofs.Ytbhlmeghbfmgiaa.F
open Go.RowKit Go.Proofs.YtbhlmeghbfmgiaaW.PrintWords Go.Proofs.YtbhlmeghbfmgiaaW.PrintLast Go.Proofs.YtbhlmeghbfmgiaaW.PrintMore
attribute [local go_sem] max2_int min2_int max_two min_two max_three min_three max_four min_four
set_option linter.unusedVariables false
set_option linter.unusedSimpArgs false
def spec_l14Draw.f (k : Nat) (s0_0 : List Int) (s0_1 : Int) (s0_2 : Int) : Option ((List (S49)) × Int × Int) := (spec_l13Score.f k s0_0 s0_1 s0_2).bind fun bt881 => ((spec_l11Draw.f k s0_0 bt881.2.1 bt881.2.2).bind fun bt886 => ((spec_PlayScore.f k bt881.1 bt886.1).bind fun bt891 => (some (bt891.1, bt886.2.1, bt886.2.2))))
set_option maxHeartbeats 8000000 in
set_option maxRecDepth 100000 in
theorem spec_l14Draw.calls (k : Nat) (g : Nat) (s0_0 : List Int) (s0_1 : Int) (s0_2 : Int) (r1 : List (S49)) (r2 : Int) (r3 : Int) (w0 w : World) (hI : IsS157 w0 w g s0_0 s0_1 s0_2) (hB : Below w0.heap.size w0 w) (h : spec_l14Draw.f k s0_0 s0_1 s0_2 = some (r1, r2, r3)) :
  Calls Try.prog 148 #[.pointer (some ⟨g, 0, none⟩)] w fun e w' => ∃ v0_ : Value, e = .returned (v0_) ∧ Kd.R k49 49 w' w.heap.size (fun _ => True) v0_ r1 ∧ IsS157 w0 w' g s0_0 r2 r3 ∧ Below w0.heap.size w0 w' ∧ KeepBut w w' g none := by
 have HI0 := sk_' hI
 have HK := sk_' (KeepBut.refl w g none)
 have HL := sk_' hB.size
 clear hI
 have HW0 := sk_' hB.size
 have HB := sk_' hB
 clear hB
 have H : ((spec_l13Score.f k s0_0 s0_1 s0_2).bind fun bt881 => ((spec_l11Draw.f k s0_0 bt881.2.1 bt881.2.2).bind fun bt886 => ((spec_PlayScore.f k bt881.1 bt886.1).bind fun bt891 => (some (bt891.1, bt886.2.1, bt886.2.2))))) = some (r1, r2, r3) := h
 clear h
 replace H := bs_' H
 obtain ⟨⟨t881, t884, t885⟩, A20, H⟩ := H
 try dsimp only at H
 have A2 := sk_' A20
 clear A20
 replace H := bs_' H
 obtain ⟨⟨t886, t889, t890⟩, A30, H⟩ := H
 try dsimp only at H
 have A3 := sk_' A30
 clear A30
 replace H := bs_' H
 obtain ⟨⟨t891, t892⟩, A40, H⟩ := H
 try dsimp only at H
 have A4 := sk_' A40
 clear A40
 simp only [Option.some.injEq, Prod.mk.injEq] at H
 obtain ⟨rfl, rfl, rfl⟩ := H
 go_enter Try.func148, Try.ntmps148
 go_wp2_with (first | ((with_reducible refine xj_' (f := 125) rfl ?_); refine goesL_ (some 7) rfl rfl Try.func125 (by kernel_rfl) rfl #[.pointer (some ⟨g, 0, none⟩)] rfl (by (try simp only [xm_', xc_', xn_']); first | done | rfl | (simp only [xd_', xt_']; rfl)) ?_; (with_reducible refine (spec_l13Score.calls k g s0_0 s0_1 s0_2 t881 t884 t885 w0 _ ?side1 ?side2 A2.out).mono ?_); (case side1 => repeat (first | (with_reducible first | exact HI0.out | apply IsS157.alloc | apply IsS157.drewN | apply IsS157.drew | apply IsS157.set_1 | apply IsS157.set_2) | exact HI0.out)); (case side2 => repeat (first | (with_reducible first | exact HB.out | apply pa_' | apply pn_' | apply pd_' | refine pt_' ?_ (IsS157.ge HI0.out)) | exact HB.out)); rintro e w5 ⟨v882, rfl, ho0, hi, hb, hk⟩; refine ⟨_, rfl, ?_⟩; have n0_ := sk_' (Kd.R_lower ho0 (keep_size (w := w) (g := g) (row := none) (by repeat (first | (with_reducible first | exact HK.out | apply KeepBut.set_ | apply keep_drewN | apply keep_drew | apply keep_alloc) | exact HK.out)))); have n1_ := sk_' (KeepBut.trans (by repeat (first | (with_reducible first | exact HK.out | apply KeepBut.set_ | apply keep_drewN | apply keep_drew | apply keep_alloc) | exact HK.out)) hk (.inl rfl)); have n2_ := sk_' (hb); have n3_ := sk_' (hi); clear HK; clear HB; clear HI0; have HO883 := n0_; have HK := n1_; have HB := n2_; have HI0 := n3_; clear n0_ n1_ n2_ n3_; (try clear hb); (try clear hb2); (try clear hk); (try clear hi); (try clear ho0)) | ((with_reducible refine xj_' (f := 137) rfl ?_); refine goesL_ (some 9) rfl rfl Try.func137 (by kernel_rfl) rfl #[.pointer (some ⟨g, 0, none⟩)] rfl (by (try simp only [xm_', xc_', xn_']); first | done | rfl | (simp only [xd_', xt_']; rfl)) ?_; (with_reducible refine (spec_l11Draw.calls k g s0_0 t884 t885 t886 t889 t890 w0 _ ?side1 ?side2 A3.out).mono ?_); (case side1 => repeat (first | (with_reducible first | exact HI0.out | apply IsS157.alloc | apply IsS157.drewN | apply IsS157.drew | apply IsS157.set_1 | apply IsS157.set_2) | exact HI0.out)); (case side2 => repeat (first | (with_reducible first | exact HB.out | apply pa_' | apply pn_' | apply pd_' | refine pt_' ?_ (IsS157.ge HI0.out)) | exact HB.out)); rintro e w6 ⟨v887, rfl, ho0, hi, hb, hk⟩; refine ⟨_, rfl, ?_⟩; have n0_ := sk_' (xi_' (Kd.R_keep (IsS157.apart (show IsS157 w0 _ g s0_0 t884 t885 from by repeat (first | (with_reducible first | exact HI0.out | apply IsS157.alloc | apply IsS157.drewN | apply IsS157.drew | apply IsS157.set_1 | apply IsS157.set_2) | exact HI0.out)) (by (with_reducible repeat (first | apply ra_' | apply rn_' | apply rd1_')); exact HO883.out) (by decide)) hk (fun _ h => h.2)) (fun _ h => h.1)); have n1_ := sk_' (Kd.R_lower ho0 (keep_size (w := w) (g := g) (row := none) (by repeat (first | (with_reducible first | exact HK.out | apply KeepBut.set_ | apply keep_drewN | apply keep_drew | apply keep_alloc) | exact HK.out)))); have n2_ := sk_' (KeepBut.trans (by repeat (first | (with_reducible first | exact HK.out | apply KeepBut.set_ | apply keep_drewN | apply keep_drew | apply keep_alloc) | exact HK.out)) hk (.inl rfl)); have n3_ := sk_' (hb); have n4_ := sk_' (hi); clear HO883; clear HK; clear HB; clear HI0; have HO883 := n0_; have HO888 := n1_; have HK := n2_; have HB := n3_; have HI0 := n4_; clear n0_ n1_ n2_ n3_ n4_; (try clear hb); (try clear hb2); (try clear hk); (try clear hi); (try clear ho0); obtain ⟨Ao7, co7, eo7⟩ := Kd.R_slice HO883.out; subst eo7; obtain ⟨Ao8, co8, eo8⟩ := Kd.R_slice HO888.out; subst eo8) | ((with_reducible refine xj_' (f := 24) rfl ?_); refine goesL_ (some 10) rfl rfl Try.func24 (by kernel_rfl) rfl #[.slice Ao7 t881.length co7, .slice Ao8 t886.length co8] rfl (by (try simp only [xm_', xc_', xn_']); first | done | rfl | (simp only [xd_', xt_']; rfl)) ?_; (with_reducible refine (spec_PlayScore.calls k _ _ t881 _ _ t886 t891 t892 _ ?side1 ?side2 ?side3 ?side4 A4.out).mono ?_); (case side1 => repeat (first | exact (xr_' HO883.out).2.2 | (with_reducible refine xg_' ?_ _) | (with_reducible refine xe_' ?_ _) | (with_reducible refine xf_' ?_))); (case side2 => exact (xr_' HO883.out).2.1); (case side3 => repeat (first | exact (xr_' HO888.out).2.2 | (with_reducible refine xg_' ?_ _) | (with_reducible refine xe_' ?_ _) | (with_reducible refine xf_' ?_))); (case side4 => exact (xr_' HO888.out).2.1); rintro e w9 ⟨v893, rfl, ho0, hb⟩; refine ⟨_, rfl, ?_⟩; have n0_ := sk_' (xb_' (by (with_reducible repeat (first | apply ra_' | apply rn_' | apply rd1_')); exact HO883.out) hb); have n1_ := sk_' (xb_' (by (with_reducible repeat (first | apply ra_' | apply rn_' | apply rd1_')); exact HO888.out) hb); have n2_ := sk_' (Kd.R_lower ho0 (keep_size (w := w) (g := g) (row := none) (by repeat (first | (with_reducible first | exact HK.out | apply KeepBut.set_ | apply keep_drewN | apply keep_drew | apply keep_alloc) | exact HK.out)))); have n3_ := sk_' (IsS157.below (by repeat (first | (with_reducible first | exact HI0.out | apply IsS157.alloc | apply IsS157.drewN | apply IsS157.drew | apply IsS157.set_1 | apply IsS157.set_2) | exact HI0.out)) hb); have n4_ := sk_' (KeepBut.trans (by repeat (first | (with_reducible first | exact HK.out | apply KeepBut.set_ | apply keep_drewN | apply keep_drew | apply keep_alloc) | exact HK.out)) (KeepBut.of_below hb g none) (.inl rfl)); have n5_ := sk_' (pp_' (by repeat (first | (with_reducible first | exact HB.out | apply pa_' | apply pn_' | apply pd_' | refine pt_' ?_ (IsS157.ge HI0.out)) | exact HB.out)) hb); clear HO883; clear HO888; clear HI0; clear HK; clear HB; have HO883 := n0_; have HO888 := n1_; have HO894 := n2_; have HI0 := n3_; have HK := n4_; have HB := n5_; clear n0_ n1_ n2_ n3_ n4_ n5_; (try clear hb); (try clear hb2); (try clear hk); (try clear hi); (try clear ho0)))
 go_ret
 exact ⟨_, by first | rfl | (simp [errW_none, errW_some] <;> rfl) | (simp [*, errW_none, errW_some] <;> rfl), by (with_reducible repeat (first | apply ra_' | apply rn_' | apply rd1_')); exact HO894.out, by repeat (first | (with_reducible first | exact HI0.out | apply IsS157.alloc | apply IsS157.drewN | apply IsS157.drew | apply IsS157.set_1 | apply IsS157.set_2) | exact HI0.out), by repeat (first | (with_reducible first | exact HB.out | apply pa_' | apply pn_' | apply pd_' | refine pt_' ?_ (IsS157.ge HI0.out)) | exact HB.out), by repeat (first | (with_reducible first | exact HK.out | apply KeepBut.set_ | apply keep_drewN | apply keep_drew | apply keep_alloc) | exact HK.out)⟩
end Go.Proofs.Ytbhlmeghbfmgiaa.F

namespace Go.Proofs.Ytbhlmeghbfmgiaa.F
open Go.RowKit Go.Proofs.YtbhlmeghbfmgiaaW.PrintWords Go.Proofs.YtbhlmeghbfmgiaaW.PrintLast Go.Proofs.YtbhlmeghbfmgiaaW.PrintMore
attribute [local go_sem] max2_int min2_int max_two min_two max_three min_three max_four min_four
set_option linter.unusedVariables false
set_option linter.unusedSimpArgs false
def spec_l14Any.f (k : Nat) (s0_0 : List Int) (s0_1 : Int) (s0_2 : Int) : Option ((List (S49)) × Int × Int) := (spec_l14Draw.f k s0_0 s0_1 s0_2).bind fun bt895 => (if (bt895.1.length : Int) = 0 then (some (bt895.1, bt895.2.1, bt895.2.2)) else ((spec_l1Below.f s0_0 bt895.2.1 bt895.2.2 (bt895.1.length : Int)).bind fun bt900 => ((spec_l1Below.f s0_0 bt900.2.1 bt900.2.2 9).bind fun bt903 => (if bt903.1 = 0 then ((spec_l1Int.f s0_0 bt903.2.1 bt903.2.2 (([(-1), 10000000, 10000001] : List Int))).bind fun bt909 => (if 0 ≤ bt900.1 then (if bt900.1 < (bt895.1.length : Int) then (some ((bt895.1.set (bt900.1 : Int).toNat (⟨bt909.1, (rd_T49 bt895.1 bt900.1).f1⟩ : S49)), bt909.2.1, bt909.2.2)) else (none)) else (none))) else (if bt903.1 = 1 then ((spec_l1Int.f s0_0 bt903.2.1 bt903.2.2 (([(-1), 127, 128] : List Int))).bind fun bt916 => (if 0 ≤ bt900.1 then (if bt900.1 < (bt895.1.length : Int) then (some ((bt895.1.set (bt900.1 : Int).toNat (⟨(rd_T49 bt895.1 bt900.1).f0, bt916.1⟩ : S49)), bt916.2.1, bt916.2.2)) else (none)) else (none))) else (some (bt895.1, bt903.2.1, bt903.2.2)))))))
set_option maxHeartbeats 8000000 in
set_option maxRecDepth 100000 in
theorem spec_l14Any.calls (k : Nat) (g : Nat) (s0_0 : List Int) (s0_1 : Int) (s0_2 : Int) (r1 : List (S49)) (r2 : Int) (r3 : Int) (w0 w : World) (hI : IsS157 w0 w g s0_0 s0_1 s0_2) (hB : Below w0.heap.size w0 w) (h : spec_l14Any.f k s0_0 s0_1 s0_2 = some (r1, r2, r3)) :
  Calls Try.prog 101 #[.pointer (some ⟨g, 0, none⟩)] w fun e w' => ∃ v0_ : Value, e = .returned (v0_) ∧ Kd.R k49 49 w' w.heap.size (fun _ => True) v0_ r1 ∧ IsS157 w0 w' g s0_0 r2 r3 ∧ Below w0.heap.size w0 w' ∧ KeepBut w w' g none := by
 have HI0 := sk_' hI
 have HK := sk_' (KeepBut.refl w g none)
 have HL := sk_' hB.size
 clear hI
 have HW0 := sk_' hB.size
 have HB := sk_' hB
 clear hB
 have H : ((spec_l14Draw.f k s0_0 s0_1 s0_2).bind fun bt895 => (if (bt895.1.length : Int) = 0 then (some (bt895.1, bt895.2.1, bt895.2.2)) else ((spec_l1Below.f s0_0 bt895.2.1 bt895.2.2 (bt895.1.length : Int)).bind fun bt900 => ((spec_l1Below.f s0_0 bt900.2.1 bt900.2.2 9).bind fun bt903 => (if bt903.1 = 0 then ((spec_l1Int.f s0_0 bt903.2.1 bt903.2.2 (([(-1), 10000000, 10000001] : List Int))).bind fun bt909 => (if 0 ≤ bt900.1 then (if bt900.1 < (bt895.1.length : Int) then (some ((bt895.1.set (bt900.1 : Int).toNat (⟨bt909.1, (rd_T49 bt895.1 bt900.1).f1⟩ : S49)), bt909.2.1, bt909.2.2)) else (none)) else (none))) else (if bt903.1 = 1 then ((spec_l1Int.f s0_0 bt903.2.1 bt903.2.2 (([(-1), 127, 128] : List Int))).bind fun bt916 => (if 0 ≤ bt900.1 then (if bt900.1 < (bt895.1.length : Int) then (some ((bt895.1.set (bt900.1 : Int).toNat (⟨(rd_T49 bt895.1 bt900.1).f0, bt916.1⟩ : S49)), bt916.2.1, bt916.2.2)) else (none)) else (none))) else (some (bt895.1, bt903.2.1, bt903.2.2)))))))) = some (r1, r2, r3) := h
 clear h
 replace H := bs_' H
 obtain ⟨⟨t895, t898, t899⟩, A20, H⟩ := H
 try dsimp only at H
 have A2 := sk_' A20
 clear A20
 by_cases c3 : (t895.length : Int) = 0
 ·
  rw [if_pos c3] at H
  have c3b0 : ((t895.length : Int) == 0) = true := beq_iff_eq.mpr c3
  have c3b1 : ((t895.length : Int) != 0) = false := bne_eq_false_iff_eq.mpr c3
  clear c3
  simp only [Option.some.injEq, Prod.mk.injEq] at H
  obtain ⟨rfl, rfl, rfl⟩ := H
  go_enter Try.func101, Try.ntmps101
  go_wp2_with (first | ((with_reducible refine xj_' (f := 148) rfl ?_); refine goesL_ (some 6) rfl rfl Try.func148 (by kernel_rfl) rfl #[.pointer (some ⟨g, 0, none⟩)] rfl (by (try simp only [xm_', xc_', xn_']); first | done | rfl | (simp only [xd_', xt_']; rfl)) ?_; (with_reducible refine (spec_l14Draw.calls k g s0_0 s0_1 s0_2 t895 t898 t899 w0 _ ?side1 ?side2 A2.out).mono ?_); (case side1 => repeat (first | (with_reducible first | exact HI0.out | apply IsS157.alloc | apply IsS157.drewN | apply IsS157.drew | apply IsS157.set_1 | apply IsS157.set_2) | exact HI0.out)); (case side2 => repeat (first | (with_reducible first | exact HB.out | apply pa_' | apply pn_' | apply pd_' | refine pt_' ?_ (IsS157.ge HI0.out)) | exact HB.out)); rintro e w4 ⟨v896, rfl, ho0, hi, hb, hk⟩; refine ⟨_, rfl, ?_⟩; have n0_ := sk_' (Kd.R_lower ho0 (keep_size (w := w) (g := g) (row := none) (by repeat (first | (with_reducible first | exact HK.out | apply KeepBut.set_ | apply keep_drewN | apply keep_drew | apply keep_alloc) | exact HK.out)))); have n1_ := sk_' (KeepBut.trans (by repeat (first | (with_reducible first | exact HK.out | apply KeepBut.set_ | apply keep_drewN | apply keep_drew | apply keep_alloc) | exact HK.out)) hk (.inl rfl)); have n2_ := sk_' (hb); have n3_ := sk_' (hi); clear HK; clear HB; clear HI0; have HO897 := n0_; have HK := n1_; have HB := n2_; have HI0 := n3_; clear n0_ n1_ n2_ n3_; (try clear hb); (try clear hb2); (try clear hk); (try clear hi); (try clear ho0); obtain ⟨Ao5, co5, eo5⟩ := Kd.R_slice HO897.out; subst eo5))
  go_ret
  exact ⟨_, by first | rfl | (simp [errW_none, errW_some] <;> rfl) | (simp [*, errW_none, errW_some] <;> rfl), by (with_reducible repeat (first | apply ra_' | apply rn_' | apply rd1_')); exact HO897.out, by repeat (first | (with_reducible first | exact HI0.out | apply IsS157.alloc | apply IsS157.drewN | apply IsS157.drew | apply IsS157.set_1 | apply IsS157.set_2) | exact HI0.out), by repeat (first | (with_reducible first | exact HB.out | apply pa_' | apply pn_' | apply pd_' | refine pt_' ?_ (IsS157.ge HI0.out)) | exact HB.out), by repeat (first | (with_reducible first | exact HK.out | apply KeepBut.set_ | apply keep_drewN | apply keep_drew | apply keep_alloc) | exact HK.out)⟩
 rw [if_neg c3] at H
 have c3b0 : ((t895.length : Int) == 0) = false := beq_eq_false_iff_ne.mpr c3
 have c3b1 : ((t895.length : Int) != 0) = true := bne_iff_ne.mpr c3
 have c3b2 : ¬ (t895 = []) := fun h_ => c3 (by rw [h_]; rfl)
 replace H := bs_' H
 obtain ⟨⟨t900, t901, t902⟩, A60, H⟩ := H
 try dsimp only at H
 have A6 := sk_' A60
 clear A60
 replace H := bs_' H
 obtain ⟨⟨t903, t904, t905⟩, A70, H⟩ := H
 try dsimp only at H
 have A7 := sk_' A70
 clear A70
 by_cases c8 : t903 = 0
 ·
  rw [if_pos c8] at H
  have c8b0 : (t903 == 0) = true := beq_iff_eq.mpr c8
  have c8b1 : (t903 != 0) = false := bne_eq_false_iff_eq.mpr c8
  clear c8
  obtain ⟨y906, hy906⟩ : ∃ y_ : List Int, y_ = (([(-1), 10000000, 10000001] : List Int)) := ⟨_, rfl⟩
  replace H : ((spec_l1Int.f s0_0 t904 t905 y906).bind fun bt909 => (if 0 ≤ t900 then (if t900 < (t895.length : Int) then (some ((t895.set (t900 : Int).toNat (⟨bt909.1, (rd_T49 t895 t900).f1⟩ : S49)), bt909.2.1, bt909.2.2)) else (none)) else (none))) = some (r1, r2, r3) := by first | (rw [hy906]; with_reducible exact H) | (have H2_ := (Option.bind_some _ _).symm.trans H; rw [hy906]; with_reducible exact H2_) | (have H2_ := (Option.bind_some _ _).symm.trans H; with_reducible exact H2_) | with_reducible exact H | (rw [hy906]; exact H) | exact H
  have Ny906 := sk_' hy906
  clear hy906
  replace H := bs_' H
  obtain ⟨⟨t909, t910, t911⟩, A90, H⟩ := H
  try dsimp only at H
  have A9 := sk_' A90
  clear A90
  by_cases c10 : 0 ≤ t900
  ·
   rw [if_pos c10] at H
   have c10b0 : decide (0 ≤ t900) = true := decide_eq_true c10
   clear c10
   by_cases c11 : t900 < (t895.length : Int)
   ·
    rw [if_pos c11] at H
    have c11b0 : decide (t900 < (t895.length : Int)) = true := decide_eq_true c11
    clear c11
    obtain ⟨y912, hy912⟩ : ∃ y_ : List (S49), y_ = (t895.set (t900 : Int).toNat (⟨t909, (rd_T49 t895 t900).f1⟩ : S49)) := ⟨_, rfl⟩
    replace H : (some (y912, t910, t911)) = some (r1, r2, r3) := by first | (rw [hy912]; with_reducible exact H) | (have H2_ := (Option.bind_some _ _).symm.trans H; rw [hy912]; with_reducible exact H2_) | (have H2_ := (Option.bind_some _ _).symm.trans H; with_reducible exact H2_) | with_reducible exact H | (rw [hy912]; exact H) | exact H
    have Ny912 := sk_' hy912
    clear hy912
    simp only [Option.some.injEq, Prod.mk.injEq] at H
    obtain ⟨rfl, rfl, rfl⟩ := H
    go_enter Try.func101, Try.ntmps101
    go_wp2_with (first | ((with_reducible refine xj_' (f := 148) rfl ?_); refine goesL_ (some 6) rfl rfl Try.func148 (by kernel_rfl) rfl #[.pointer (some ⟨g, 0, none⟩)] rfl (by (try simp only [xm_', xc_', xn_']); first | done | rfl | (simp only [xd_', xt_']; rfl)) ?_; (with_reducible refine (spec_l14Draw.calls k g s0_0 s0_1 s0_2 t895 t898 t899 w0 _ ?side1 ?side2 A2.out).mono ?_); (case side1 => repeat (first | (with_reducible first | exact HI0.out | apply IsS157.alloc | apply IsS157.drewN | apply IsS157.drew | apply IsS157.set_1 | apply IsS157.set_2) | exact HI0.out)); (case side2 => repeat (first | (with_reducible first | exact HB.out | apply pa_' | apply pn_' | apply pd_' | refine pt_' ?_ (IsS157.ge HI0.out)) | exact HB.out)); rintro e w13 ⟨v896, rfl, ho0, hi, hb, hk⟩; refine ⟨_, rfl, ?_⟩; have n0_ := sk_' (Kd.R_lower ho0 (keep_size (w := w) (g := g) (row := none) (by repeat (first | (with_reducible first | exact HK.out | apply KeepBut.set_ | apply keep_drewN | apply keep_drew | apply keep_alloc) | exact HK.out)))); have n1_ := sk_' (KeepBut.trans (by repeat (first | (with_reducible first | exact HK.out | apply KeepBut.set_ | apply keep_drewN | apply keep_drew | apply keep_alloc) | exact HK.out)) hk (.inl rfl)); have n2_ := sk_' (hb); have n3_ := sk_' (hi); clear HK; clear HB; clear HI0; have HO897 := n0_; have HK := n1_; have HB := n2_; have HI0 := n3_; clear n0_ n1_ n2_ n3_; (try clear hb); (try clear hb2); (try clear hk); (try clear hi); (try clear ho0); obtain ⟨Ao14, co14, eo14⟩ := Kd.R_slice HO897.out; subst eo14) | ((with_reducible refine xj_' (f := 91) rfl ?_); refine goesL_ (some 14) rfl rfl Try.func91 (by kernel_rfl) rfl #[.pointer (some ⟨g, 0, none⟩), .int .i64 (t895.length : Int)] rfl (by (try simp only [xm_', xc_', xn_']); first | done | rfl | (simp only [xd_', xt_']; rfl)) ?_; (with_reducible refine (spec_l1Below.calls g s0_0 t898 t899 (t895.length : Int) t900 t901 t902 w0 _ ?side1 ?side2 A6.out).mono ?_); (case side1 => repeat (first | (with_reducible first | exact HI0.out | apply IsS157.alloc | apply IsS157.drewN | apply IsS157.drew | apply IsS157.set_1 | apply IsS157.set_2) | exact HI0.out)); (case side2 => repeat (first | (with_reducible first | exact HB.out | apply pa_' | apply pn_' | apply pd_' | refine pt_' ?_ (IsS157.ge HI0.out)) | exact HB.out)); rintro e w15 ⟨rfl, hi, hb, hk⟩; refine ⟨_, rfl, ?_⟩; have n0_ := sk_' (xi_' (Kd.R_keep (IsS157.apart (show IsS157 w0 _ g s0_0 t898 t899 from by repeat (first | (with_reducible first | exact HI0.out | apply IsS157.alloc | apply IsS157.drewN | apply IsS157.drew | apply IsS157.set_1 | apply IsS157.set_2) | exact HI0.out)) (by (with_reducible repeat (first | apply ra_' | apply rn_' | apply rd1_')); exact HO897.out) (by decide)) hk (fun _ h => h.2)) (fun _ h => h.1)); have n1_ := sk_' (KeepBut.trans (by repeat (first | (with_reducible first | exact HK.out | apply KeepBut.set_ | apply keep_drewN | apply keep_drew | apply keep_alloc) | exact HK.out)) hk (.inl rfl)); have n2_ := sk_' (hb); have n3_ := sk_' (hi); clear HO897; clear HK; clear HB; clear HI0; have HO897 := n0_; have HK := n1_; have HB := n2_; have HI0 := n3_; clear n0_ n1_ n2_ n3_; (try clear hb); (try clear hb2); (try clear hk); (try clear hi)) | ((with_reducible refine xj_' (f := 91) rfl ?_); refine goesL_ (some 16) rfl rfl Try.func91 (by kernel_rfl) rfl #[.pointer (some ⟨g, 0, none⟩), .int .i64 9] rfl (by (try simp only [xm_', xc_', xn_']); first | done | rfl | (simp only [xd_', xt_']; rfl)) ?_; (with_reducible refine (spec_l1Below.calls g s0_0 t901 t902 9 t903 t904 t905 w0 _ ?side1 ?side2 A7.out).mono ?_); (case side1 => repeat (first | (with_reducible first | exact HI0.out | apply IsS157.alloc | apply IsS157.drewN | apply IsS157.drew | apply IsS157.set_1 | apply IsS157.set_2) | exact HI0.out)); (case side2 => repeat (first | (with_reducible first | exact HB.out | apply pa_' | apply pn_' | apply pd_' | refine pt_' ?_ (IsS157.ge HI0.out)) | exact HB.out)); rintro e w16 ⟨rfl, hi, hb, hk⟩; refine ⟨_, rfl, ?_⟩; have n0_ := sk_' (xi_' (Kd.R_keep (IsS157.apart (show IsS157 w0 _ g s0_0 t901 t902 from by repeat (first | (with_reducible first | exact HI0.out | apply IsS157.alloc | apply IsS157.drewN | apply IsS157.drew | apply IsS157.set_1 | apply IsS157.set_2) | exact HI0.out)) (by (with_reducible repeat (first | apply ra_' | apply rn_' | apply rd1_')); exact HO897.out) (by decide)) hk (fun _ h => h.2)) (fun _ h => h.1)); have n1_ := sk_' (KeepBut.trans (by repeat (first | (with_reducible first | exact HK.out | apply KeepBut.set_ | apply keep_drewN | apply keep_drew | apply keep_alloc) | exact HK.out)) hk (.inl rfl)); have n2_ := sk_' (hb); have n3_ := sk_' (hi); clear HO897; clear HK; clear HB; clear HI0; have HO897 := n0_; have HK := n1_; have HB := n2_; have HI0 := n3_; clear n0_ n1_ n2_ n3_; (try clear hb); (try clear hb2); (try clear hk); (try clear hi)) | ((with_reducible refine gate_dst (N := 22) rfl ?_); refine Kd.R_lit (Kd.int .i64) _ 3 ?hg (N := 22) ?hd (xs := ([(-1), 10000000, 10000001] : List Int)) (inner := [.int .i64 (-1), .int .i64 10000000, .int .i64 10000001]) (ok := fun _ => True) (okp := fun _ => True) ?hr ?hp (fun _ hk => hk) trivial (Below.refl _ _) (Nat.le_refl _) (by simp) ?_; (case hd => rfl); (case hg => rfl); (case hr => first | (go_simp; done) | (go_simp; rfl)); (case hp => exact (Reps.one (show Kd.M (Kd.int .i64) _ _ _ (-1) [.int .i64 (-1)] from rfl) (Reps.one (show Kd.M (Kd.int .i64) _ _ _ 10000000 [.int .i64 10000000] from rfl) (Reps.one (show Kd.M (Kd.int .i64) _ _ _ 10000001 [.int .i64 10000001] from rfl) (Reps.none _ _))))); intro v907 w17 ho18 hb hg_ hnew_; clear hg_ hnew_; (first | rw [← Ny906.out] at ho18 | (simp only [Int.reduceToNat] at ho18; rw [← Ny906.out] at ho18)); have n0_ := sk_' (xb_' (by (with_reducible repeat (first | apply ra_' | apply rn_' | apply rd1_')); exact HO897.out) hb); have n1_ := sk_' (Kd.R_lower ho18 (keep_size (w := w) (g := g) (row := none) (by repeat (first | (with_reducible first | exact HK.out | apply KeepBut.set_ | apply keep_drewN | apply keep_drew | apply keep_alloc) | exact HK.out)))); have n2_ := sk_' (IsS157.below (by repeat (first | (with_reducible first | exact HI0.out | apply IsS157.alloc | apply IsS157.drewN | apply IsS157.drew | apply IsS157.set_1 | apply IsS157.set_2) | exact HI0.out)) hb); have n3_ := sk_' (KeepBut.trans (by repeat (first | (with_reducible first | exact HK.out | apply KeepBut.set_ | apply keep_drewN | apply keep_drew | apply keep_alloc) | exact HK.out)) (KeepBut.of_below hb g none) (.inl rfl)); have n4_ := sk_' (pp_' (by repeat (first | (with_reducible first | exact HB.out | apply pa_' | apply pn_' | apply pd_' | refine pt_' ?_ (IsS157.ge HI0.out)) | exact HB.out)) hb); clear HO897; clear HI0; clear HK; clear HB; have HO897 := n0_; have HO908 := n1_; have HI0 := n2_; have HK := n3_; have HB := n4_; clear n0_ n1_ n2_ n3_ n4_; clear hb ho18; obtain ⟨Ao19, co19, eo19⟩ := Kd.R_slice HO908.out; subst eo19) | ((with_reducible refine xj_' (f := 78) rfl ?_); refine goesL_ (some 23) rfl rfl Try.func78 (by kernel_rfl) rfl #[.pointer (some ⟨g, 0, none⟩), .slice Ao19 y906.length co19] rfl (by (try simp only [xm_', xc_', xn_']); first | done | rfl | (simp only [xd_', xt_']; rfl)) ?_; (with_reducible refine (spec_l1Int.calls g s0_0 t904 t905 _ _ y906 t909 t910 t911 w0 _ ?side1 ?side2 ?side3 ?side4 ?side5 A9.out).mono ?_); (case side1 => repeat (first | (with_reducible first | exact HI0.out | apply IsS157.alloc | apply IsS157.drewN | apply IsS157.drew | apply IsS157.set_1 | apply IsS157.set_2) | exact HI0.out)); (case side2 => repeat (first | (with_reducible first | exact HB.out | apply pa_' | apply pn_' | apply pd_' | refine pt_' ?_ (IsS157.ge HI0.out)) | exact HB.out)); (case side3 => repeat (first | exact (xr_' HO908.out).2.2 | (with_reducible refine xg_' ?_ _) | (with_reducible refine xe_' ?_ _) | (with_reducible refine xf_' ?_))); (case side4 => exact (xr_' HO908.out).2.1); (case side5 => exact far_slice (IsS157.own_ne HI0.out HO908.out (by decide))); rintro e w20 ⟨rfl, hi, hb, hk⟩; refine ⟨_, rfl, ?_⟩; have n0_ := sk_' (xi_' (Kd.R_keep (IsS157.apart (show IsS157 w0 _ g s0_0 t904 t905 from by repeat (first | (with_reducible first | exact HI0.out | apply IsS157.alloc | apply IsS157.drewN | apply IsS157.drew | apply IsS157.set_1 | apply IsS157.set_2) | exact HI0.out)) (by (with_reducible repeat (first | apply ra_' | apply rn_' | apply rd1_')); exact HO897.out) (by decide)) hk (fun _ h => h.2)) (fun _ h => h.1)); have n1_ := sk_' (xi_' (Kd.R_keep (IsS157.apart (show IsS157 w0 _ g s0_0 t904 t905 from by repeat (first | (with_reducible first | exact HI0.out | apply IsS157.alloc | apply IsS157.drewN | apply IsS157.drew | apply IsS157.set_1 | apply IsS157.set_2) | exact HI0.out)) (by (with_reducible repeat (first | apply ra_' | apply rn_' | apply rd1_')); exact HO908.out) (by decide)) hk (fun _ h => h.2)) (fun _ h => h.1)); have n2_ := sk_' (KeepBut.trans (by repeat (first | (with_reducible first | exact HK.out | apply KeepBut.set_ | apply keep_drewN | apply keep_drew | apply keep_alloc) | exact HK.out)) hk (.inl rfl)); have n3_ := sk_' (hb); have n4_ := sk_' (hi); clear HO897; clear HO908; clear HK; clear HB; clear HI0; have HO897 := n0_; have HO908 := n1_; have HK := n2_; have HB := n3_; have HI0 := n4_; clear n0_ n1_ n2_ n3_ n4_; (try clear hb); (try clear hb2); (try clear hk); (try clear hi); have p12 : 0 ≤ (t900 : Int) := od_' (by first | (with_reducible assumption) | assumption); have q12 : (t900 : Int) < ((t895.length : Int) : Int) := od_' (by first | (with_reducible assumption) | assumption); obtain ⟨go12, co12, eo12, gb12, gl12, cl12, HG12⟩ := Kd.R_form HO897.out (by omega); (first | cases eo12 | (injection eo12 with ea_ en_ ec_; (first | subst ea_ | (injection ea_ with ea_; subst ea_)); subst ec_; clear en_)); have GB12 := sk_' gb12; have GG12 := sk_' HG12; clear gb12 gl12 HG12; obtain ⟨ce12, hcl12, hM12, hcc12, hfr12⟩ := Kd.R_elem HO897.out z49 (t900 : Int) p12 q12; obtain rfl := k49_openM hM12; have hx12_0 : w20.cell? ⟨go12, (t900 : Int).toNat * 2, none⟩ = some (.int .i64 ((rd_T49 t895 t900).f0)) := hcc12 0 _ rfl; have hx12_1 : w20.cell? ⟨go12, (t900 : Int).toNat * 2 + 1, none⟩ = some (.int .i64 ((rd_T49 t895 t900).f1)) := hcc12 1 _ rfl; have hf12_0 : w20.frozen? ⟨go12, (t900 : Int).toNat * 2, none⟩ = false := hfr12 0; have hf12_1 : w20.frozen? ⟨go12, (t900 : Int).toNat * 2 + 1, none⟩ = false := hfr12 1; clear hcl12 hcc12 hfr12 hM12; replace p12 := eq_true p12; replace q12 := eq_true q12; have HX21 := sk_' (show Kd.R k49 49 w20 w.heap.size (fun _ => True) (.slice (some ⟨go12, 0, none⟩) t895.length co14) t895 from (by (with_reducible repeat (first | apply ra_' | apply rn_' | apply rd1_')); exact HO897.out)); obtain ⟨ce21, hcl21, hM21, hcc21, hfr21⟩ := Kd.R_elem HX21.out z49 (t900 : Int) (od_' (by first | (with_reducible assumption) | assumption)) (by have h_ : (t900 : Int) < ((t895.length : Int) : Int) := od_' (by first | (with_reducible assumption) | assumption); first | exact h_ | (have e_ := (xr_' HO897.out).1; omega) | simpa using h_); obtain rfl := k49_openM hM21; have HP21 := Kd.R_seg HX21.out (t900 : Int) (od_' (by first | (with_reducible assumption) | assumption)) (by have h_ : (t900 : Int) < ((t895.length : Int) : Int) := od_' (by first | (with_reducible assumption) | assumption); first | exact h_ | (have e_ := (xr_' HO897.out).1; omega) | simpa using h_) (seg := [.int .i64 t909]) (j := 0) hcl21 hcc21 (show 1 ≤ 2 from by decide) (x' := (⟨t909, (rd_T49 t895 t900).f1⟩ : S49)) (k49_mkM _ _ _ (⟨t909, (rd_T49 t895 t900).f1⟩ : S49) ) (fun _ hk => hk); have hx21_0 := hcc21 0 _ rfl; (try simp only [show (k49).sz = 2 from rfl, Nat.mul_one, Nat.add_zero] at hx21_0); have hf21_0 := hfr21 0; (try simp only [show (k49).sz = 2 from rfl, Nat.mul_one, Nat.add_zero] at hf21_0); clear hcl21 hcc21 hfr21 hM21) | ((with_reducible refine gate_store (t := 3) (p := 25) rfl ?_); refine store_event (t := 3) (p := 25) (v := ?vo_w22) (w1 := (w20.setCell ⟨go12, (t900 : Int).toNat * 2, none⟩ (.int .i64 t909))) ?hg ?ho ?hn ?hr ?_; (case ho => rfl); (case hg => rfl); (case hn => rfl); (case hr => first | (go_simp; done) | (go_simp; rfl)); intro w22 hw; have hg : w20.grownBy w22 (some go12) := (by rw [hw]; exact HP21.2); have hp_ : Kd.R k49 49 w22 w.heap.size (fun _ => True) (.slice (some ⟨go12, 0, none⟩) t895.length co14) y912 := (by rw [hw, Ny912.out]; exact HP21.1); clear HP21; have n0_ := sk_' (IsS157.grown (by repeat (first | (with_reducible first | exact HI0.out | apply IsS157.alloc | apply IsS157.drewN | apply IsS157.drew | apply IsS157.set_1 | apply IsS157.set_2) | exact HI0.out)) hg (IsS157.own_ne HI0.out HO897.out (by decide))); have n1_ := sk_' (hp_); have n2_ := sk_' (Kd.R_over' (v := (.slice (some ⟨go12, 0, none⟩) t895.length co14)) (by (with_reducible repeat (first | apply ra_' | apply rn_' | apply rd1_')); exact HO908.out) (Kd.R_typed HO897.out) (by decide) hg); have n3_ := sk_' ((by rw [hw]; exact pt_' (HB.out) (Nat.le_trans HL.out GB12.out) : Below w0.heap.size w0 w22)); have n4_ := sk_' (KeepBut.trans (by repeat (first | (with_reducible first | exact HK.out | apply KeepBut.set_ | apply keep_drewN | apply keep_drew | apply keep_alloc) | exact HK.out)) (KeepBut.of_grown hg g) (Kd.R_base2 HO897.out)); clear HI0; clear HO897; clear HO908; clear HB; clear HK; have HI0 := n0_; have HO897 := n1_; have HO908 := n2_; have HB := n3_; have HK := n4_; clear n0_ n1_ n2_ n3_ n4_; clear hg hw hp_))
    go_ret
    exact ⟨_, by first | rfl | (simp [errW_none, errW_some] <;> rfl) | (simp [*, errW_none, errW_some] <;> rfl), by (with_reducible repeat (first | apply ra_' | apply rn_' | apply rd1_')); exact HO897.out, by repeat (first | (with_reducible first | exact HI0.out | apply IsS157.alloc | apply IsS157.drewN | apply IsS157.drew | apply IsS157.set_1 | apply IsS157.set_2) | exact HI0.out), by repeat (first | (with_reducible first | exact HB.out | apply pa_' | apply pn_' | apply pd_' | refine pt_' ?_ (IsS157.ge HI0.out)) | exact HB.out), by repeat (first | (with_reducible first | exact HK.out | apply KeepBut.set_ | apply keep_drewN | apply keep_drew | apply keep_alloc) | exact HK.out)⟩
   rw [if_neg c11] at H
   exact absurd H (by simp)
  rw [if_neg c10] at H
  exact absurd H (by simp)
 rw [if_neg c8] at H
 have c8b0 : (t903 == 0) = false := beq_eq_false_iff_ne.mpr c8
 have c8b1 : (t903 != 0) = true := bne_iff_ne.mpr c8
 by_cases c23 : t903 = 1
 ·
  rw [if_pos c23] at H
  have c23b0 : (t903 == 1) = true := beq_iff_eq.mpr c23
  have c23b1 : (t903 != 1) = false := bne_eq_false_iff_eq.mpr c23
  clear c23
  obtain ⟨y913, hy913⟩ : ∃ y_ : List Int, y_ = (([(-1), 127, 128] : List Int)) := ⟨_, rfl⟩
  replace H : ((spec_l1Int.f s0_0 t904 t905 y913).bind fun bt916 => (if 0 ≤ t900 then (if t900 < (t895.length : Int) then (some ((t895.set (t900 : Int).toNat (⟨(rd_T49 t895 t900).f0, bt916.1⟩ : S49)), bt916.2.1, bt916.2.2)) else (none)) else (none))) = some (r1, r2, r3) := by first | (rw [hy913]; with_reducible exact H) | (have H2_ := (Option.bind_some _ _).symm.trans H; rw [hy913]; with_reducible exact H2_) | (have H2_ := (Option.bind_some _ _).symm.trans H; with_reducible exact H2_) | with_reducible exact H | (rw [hy913]; exact H) | exact H
  have Ny913 := sk_' hy913
  clear hy913
  replace H := bs_' H
  obtain ⟨⟨t916, t917, t918⟩, A240, H⟩ := H
  try dsimp only at H
  have A24 := sk_' A240
  clear A240
  by_cases c25 : 0 ≤ t900
  ·
   rw [if_pos c25] at H
   have c25b0 : decide (0 ≤ t900) = true := decide_eq_true c25
   clear c25
   by_cases c26 : t900 < (t895.length : Int)
   ·
    rw [if_pos c26] at H
    have c26b0 : decide (t900 < (t895.length : Int)) = true := decide_eq_true c26
    clear c26
    obtain ⟨y919, hy919⟩ : ∃ y_ : List (S49), y_ = (t895.set (t900 : Int).toNat (⟨(rd_T49 t895 t900).f0, t916⟩ : S49)) := ⟨_, rfl⟩
    replace H : (some (y919, t917, t918)) = some (r1, r2, r3) := by first | (rw [hy919]; with_reducible exact H) | (have H2_ := (Option.bind_some _ _).symm.trans H; rw [hy919]; with_reducible exact H2_) | (have H2_ := (Option.bind_some _ _).symm.trans H; with_reducible exact H2_) | with_reducible exact H | (rw [hy919]; exact H) | exact H
    have Ny919 := sk_' hy919
    clear hy919
    simp only [Option.some.injEq, Prod.mk.injEq] at H
    obtain ⟨rfl, rfl, rfl⟩ := H
    go_enter Try.func101, Try.ntmps101
    go_wp2_with (first | ((with_reducible refine xj_' (f := 148) rfl ?_); refine goesL_ (some 6) rfl rfl Try.func148 (by kernel_rfl) rfl #[.pointer (some ⟨g, 0, none⟩)] rfl (by (try simp only [xm_', xc_', xn_']); first | done | rfl | (simp only [xd_', xt_']; rfl)) ?_; (with_reducible refine (spec_l14Draw.calls k g s0_0 s0_1 s0_2 t895 t898 t899 w0 _ ?side1 ?side2 A2.out).mono ?_); (case side1 => repeat (first | (with_reducible first | exact HI0.out | apply IsS157.alloc | apply IsS157.drewN | apply IsS157.drew | apply IsS157.set_1 | apply IsS157.set_2) | exact HI0.out)); (case side2 => repeat (first | (with_reducible first | exact HB.out | apply pa_' | apply pn_' | apply pd_' | refine pt_' ?_ (IsS157.ge HI0.out)) | exact HB.out)); rintro e w28 ⟨v896, rfl, ho0, hi, hb, hk⟩; refine ⟨_, rfl, ?_⟩; have n0_ := sk_' (Kd.R_lower ho0 (keep_size (w := w) (g := g) (row := none) (by repeat (first | (with_reducible first | exact HK.out | apply KeepBut.set_ | apply keep_drewN | apply keep_drew | apply keep_alloc) | exact HK.out)))); have n1_ := sk_' (KeepBut.trans (by repeat (first | (with_reducible first | exact HK.out | apply KeepBut.set_ | apply keep_drewN | apply keep_drew | apply keep_alloc) | exact HK.out)) hk (.inl rfl)); have n2_ := sk_' (hb); have n3_ := sk_' (hi); clear HK; clear HB; clear HI0; have HO897 := n0_; have HK := n1_; have HB := n2_; have HI0 := n3_; clear n0_ n1_ n2_ n3_; (try clear hb); (try clear hb2); (try clear hk); (try clear hi); (try clear ho0); obtain ⟨Ao29, co29, eo29⟩ := Kd.R_slice HO897.out; subst eo29) | ((with_reducible refine xj_' (f := 91) rfl ?_); refine goesL_ (some 14) rfl rfl Try.func91 (by kernel_rfl) rfl #[.pointer (some ⟨g, 0, none⟩), .int .i64 (t895.length : Int)] rfl (by (try simp only [xm_', xc_', xn_']); first | done | rfl | (simp only [xd_', xt_']; rfl)) ?_; (with_reducible refine (spec_l1Below.calls g s0_0 t898 t899 (t895.length : Int) t900 t901 t902 w0 _ ?side1 ?side2 A6.out).mono ?_); (case side1 => repeat (first | (with_reducible first | exact HI0.out | apply IsS157.alloc | apply IsS157.drewN | apply IsS157.drew | apply IsS157.set_1 | apply IsS157.set_2) | exact HI0.out)); (case side2 => repeat (first | (with_reducible first | exact HB.out | apply pa_' | apply pn_' | apply pd_' | refine pt_' ?_ (IsS157.ge HI0.out)) | exact HB.out)); rintro e w30 ⟨rfl, hi, hb, hk⟩; refine ⟨_, rfl, ?_⟩; have n0_ := sk_' (xi_' (Kd.R_keep (IsS157.apart (show IsS157 w0 _ g s0_0 t898 t899 from by repeat (first | (with_reducible first | exact HI0.out | apply IsS157.alloc | apply IsS157.drewN | apply IsS157.drew | apply IsS157.set_1 | apply IsS157.set_2) | exact HI0.out)) (by (with_reducible repeat (first | apply ra_' | apply rn_' | apply rd1_')); exact HO897.out) (by decide)) hk (fun _ h => h.2)) (fun _ h => h.1)); have n1_ := sk_' (KeepBut.trans (by repeat (first | (with_reducible first | exact HK.out | apply KeepBut.set_ | apply keep_drewN | apply keep_drew | apply keep_alloc) | exact HK.out)) hk (.inl rfl)); have n2_ := sk_' (hb); have n3_ := sk_' (hi); clear HO897; clear HK; clear HB; clear HI0; have HO897 := n0_; have HK := n1_; have HB := n2_; have HI0 := n3_; clear n0_ n1_ n2_ n3_; (try clear hb); (try clear hb2); (try clear hk); (try clear hi)) | ((with_reducible refine xj_' (f := 91) rfl ?_); refine goesL_ (some 16) rfl rfl Try.func91 (by kernel_rfl) rfl #[.pointer (some ⟨g, 0, none⟩), .int .i64 9] rfl (by (try simp only [xm_', xc_', xn_']); first | done | rfl | (simp only [xd_', xt_']; rfl)) ?_; (with_reducible refine (spec_l1Below.calls g s0_0 t901 t902 9 t903 t904 t905 w0 _ ?side1 ?side2 A7.out).mono ?_); (case side1 => repeat (first | (with_reducible first | exact HI0.out | apply IsS157.alloc | apply IsS157.drewN | apply IsS157.drew | apply IsS157.set_1 | apply IsS157.set_2) | exact HI0.out)); (case side2 => repeat (first | (with_reducible first | exact HB.out | apply pa_' | apply pn_' | apply pd_' | refine pt_' ?_ (IsS157.ge HI0.out)) | exact HB.out)); rintro e w31 ⟨rfl, hi, hb, hk⟩; refine ⟨_, rfl, ?_⟩; have n0_ := sk_' (xi_' (Kd.R_keep (IsS157.apart (show IsS157 w0 _ g s0_0 t901 t902 from by repeat (first | (with_reducible first | exact HI0.out | apply IsS157.alloc | apply IsS157.drewN | apply IsS157.drew | apply IsS157.set_1 | apply IsS157.set_2) | exact HI0.out)) (by (with_reducible repeat (first | apply ra_' | apply rn_' | apply rd1_')); exact HO897.out) (by decide)) hk (fun _ h => h.2)) (fun _ h => h.1)); have n1_ := sk_' (KeepBut.trans (by repeat (first | (with_reducible first | exact HK.out | apply KeepBut.set_ | apply keep_drewN | apply keep_drew | apply keep_alloc) | exact HK.out)) hk (.inl rfl)); have n2_ := sk_' (hb); have n3_ := sk_' (hi); clear HO897; clear HK; clear HB; clear HI0; have HO897 := n0_; have HK := n1_; have HB := n2_; have HI0 := n3_; clear n0_ n1_ n2_ n3_; (try clear hb); (try clear hb2); (try clear hk); (try clear hi)) | ((with_reducible refine gate_dst (N := 31) rfl ?_); refine Kd.R_lit (Kd.int .i64) _ 3 ?hg (N := 31) ?hd (xs := ([(-1), 127, 128] : List Int)) (inner := [.int .i64 (-1), .int .i64 127, .int .i64 128]) (ok := fun _ => True) (okp := fun _ => True) ?hr ?hp (fun _ hk => hk) trivial (Below.refl _ _) (Nat.le_refl _) (by simp) ?_; (case hd => rfl); (case hg => rfl); (case hr => first | (go_simp; done) | (go_simp; rfl)); (case hp => exact (Reps.one (show Kd.M (Kd.int .i64) _ _ _ (-1) [.int .i64 (-1)] from rfl) (Reps.one (show Kd.M (Kd.int .i64) _ _ _ 127 [.int .i64 127] from rfl) (Reps.one (show Kd.M (Kd.int .i64) _ _ _ 128 [.int .i64 128] from rfl) (Reps.none _ _))))); intro v914 w32 ho33 hb hg_ hnew_; clear hg_ hnew_; (first | rw [← Ny913.out] at ho33 | (simp only [Int.reduceToNat] at ho33; rw [← Ny913.out] at ho33)); have n0_ := sk_' (xb_' (by (with_reducible repeat (first | apply ra_' | apply rn_' | apply rd1_')); exact HO897.out) hb); have n1_ := sk_' (Kd.R_lower ho33 (keep_size (w := w) (g := g) (row := none) (by repeat (first | (with_reducible first | exact HK.out | apply KeepBut.set_ | apply keep_drewN | apply keep_drew | apply keep_alloc) | exact HK.out)))); have n2_ := sk_' (IsS157.below (by repeat (first | (with_reducible first | exact HI0.out | apply IsS157.alloc | apply IsS157.drewN | apply IsS157.drew | apply IsS157.set_1 | apply IsS157.set_2) | exact HI0.out)) hb); have n3_ := sk_' (KeepBut.trans (by repeat (first | (with_reducible first | exact HK.out | apply KeepBut.set_ | apply keep_drewN | apply keep_drew | apply keep_alloc) | exact HK.out)) (KeepBut.of_below hb g none) (.inl rfl)); have n4_ := sk_' (pp_' (by repeat (first | (with_reducible first | exact HB.out | apply pa_' | apply pn_' | apply pd_' | refine pt_' ?_ (IsS157.ge HI0.out)) | exact HB.out)) hb); clear HO897; clear HI0; clear HK; clear HB; have HO897 := n0_; have HO915 := n1_; have HI0 := n2_; have HK := n3_; have HB := n4_; clear n0_ n1_ n2_ n3_ n4_; clear hb ho33; obtain ⟨Ao34, co34, eo34⟩ := Kd.R_slice HO915.out; subst eo34) | ((with_reducible refine xj_' (f := 78) rfl ?_); refine goesL_ (some 32) rfl rfl Try.func78 (by kernel_rfl) rfl #[.pointer (some ⟨g, 0, none⟩), .slice Ao34 y913.length co34] rfl (by (try simp only [xm_', xc_', xn_']); first | done | rfl | (simp only [xd_', xt_']; rfl)) ?_; (with_reducible refine (spec_l1Int.calls g s0_0 t904 t905 _ _ y913 t916 t917 t918 w0 _ ?side1 ?side2 ?side3 ?side4 ?side5 A24.out).mono ?_); (case side1 => repeat (first | (with_reducible first | exact HI0.out | apply IsS157.alloc | apply IsS157.drewN | apply IsS157.drew | apply IsS157.set_1 | apply IsS157.set_2) | exact HI0.out)); (case side2 => repeat (first | (with_reducible first | exact HB.out | apply pa_' | apply pn_' | apply pd_' | refine pt_' ?_ (IsS157.ge HI0.out)) | exact HB.out)); (case side3 => repeat (first | exact (xr_' HO915.out).2.2 | (with_reducible refine xg_' ?_ _) | (with_reducible refine xe_' ?_ _) | (with_reducible refine xf_' ?_))); (case side4 => exact (xr_' HO915.out).2.1); (case side5 => exact far_slice (IsS157.own_ne HI0.out HO915.out (by decide))); rintro e w35 ⟨rfl, hi, hb, hk⟩; refine ⟨_, rfl, ?_⟩; have n0_ := sk_' (xi_' (Kd.R_keep (IsS157.apart (show IsS157 w0 _ g s0_0 t904 t905 from by repeat (first | (with_reducible first | exact HI0.out | apply IsS157.alloc | apply IsS157.drewN | apply IsS157.drew | apply IsS157.set_1 | apply IsS157.set_2) | exact HI0.out)) (by (with_reducible repeat (first | apply ra_' | apply rn_' | apply rd1_')); exact HO897.out) (by decide)) hk (fun _ h => h.2)) (fun _ h => h.1)); have n1_ := sk_' (xi_' (Kd.R_keep (IsS157.apart (show IsS157 w0 _ g s0_0 t904 t905 from by repeat (first | (with_reducible first | exact HI0.out | apply IsS157.alloc | apply IsS157.drewN | apply IsS157.drew | apply IsS157.set_1 | apply IsS157.set_2) | exact HI0.out)) (by (with_reducible repeat (first | apply ra_' | apply rn_' | apply rd1_')); exact HO915.out) (by decide)) hk (fun _ h => h.2)) (fun _ h => h.1)); have n2_ := sk_' (KeepBut.trans (by repeat (first | (with_reducible first | exact HK.out | apply KeepBut.set_ | apply keep_drewN | apply keep_drew | apply keep_alloc) | exact HK.out)) hk (.inl rfl)); have n3_ := sk_' (hb); have n4_ := sk_' (hi); clear HO897; clear HO915; clear HK; clear HB; clear HI0; have HO897 := n0_; have HO915 := n1_; have HK := n2_; have HB := n3_; have HI0 := n4_; clear n0_ n1_ n2_ n3_ n4_; (try clear hb); (try clear hb2); (try clear hk); (try clear hi); have p27 : 0 ≤ (t900 : Int) := od_' (by first | (with_reducible assumption) | assumption); have q27 : (t900 : Int) < ((t895.length : Int) : Int) := od_' (by first | (with_reducible assumption) | assumption); obtain ⟨go27, co27, eo27, gb27, gl27, cl27, HG27⟩ := Kd.R_form HO897.out (by omega); (first | cases eo27 | (injection eo27 with ea_ en_ ec_; (first | subst ea_ | (injection ea_ with ea_; subst ea_)); subst ec_; clear en_)); have GB27 := sk_' gb27; have GG27 := sk_' HG27; clear gb27 gl27 HG27; obtain ⟨ce27, hcl27, hM27, hcc27, hfr27⟩ := Kd.R_elem HO897.out z49 (t900 : Int) p27 q27; obtain rfl := k49_openM hM27; have hx27_0 : w35.cell? ⟨go27, (t900 : Int).toNat * 2, none⟩ = some (.int .i64 ((rd_T49 t895 t900).f0)) := hcc27 0 _ rfl; have hx27_1 : w35.cell? ⟨go27, (t900 : Int).toNat * 2 + 1, none⟩ = some (.int .i64 ((rd_T49 t895 t900).f1)) := hcc27 1 _ rfl; have hf27_0 : w35.frozen? ⟨go27, (t900 : Int).toNat * 2, none⟩ = false := hfr27 0; have hf27_1 : w35.frozen? ⟨go27, (t900 : Int).toNat * 2 + 1, none⟩ = false := hfr27 1; clear hcl27 hcc27 hfr27 hM27; replace p27 := eq_true p27; replace q27 := eq_true q27; have HX36 := sk_' (show Kd.R k49 49 w35 w.heap.size (fun _ => True) (.slice (some ⟨go27, 0, none⟩) t895.length co29) t895 from (by (with_reducible repeat (first | apply ra_' | apply rn_' | apply rd1_')); exact HO897.out)); obtain ⟨ce36, hcl36, hM36, hcc36, hfr36⟩ := Kd.R_elem HX36.out z49 (t900 : Int) (od_' (by first | (with_reducible assumption) | assumption)) (by have h_ : (t900 : Int) < ((t895.length : Int) : Int) := od_' (by first | (with_reducible assumption) | assumption); first | exact h_ | (have e_ := (xr_' HO897.out).1; omega) | simpa using h_); obtain rfl := k49_openM hM36; have HP36 := Kd.R_seg HX36.out (t900 : Int) (od_' (by first | (with_reducible assumption) | assumption)) (by have h_ : (t900 : Int) < ((t895.length : Int) : Int) := od_' (by first | (with_reducible assumption) | assumption); first | exact h_ | (have e_ := (xr_' HO897.out).1; omega) | simpa using h_) (seg := [.int .i64 t916]) (j := 1) hcl36 hcc36 (show 2 ≤ 2 from by decide) (x' := (⟨(rd_T49 t895 t900).f0, t916⟩ : S49)) (k49_mkM _ _ _ (⟨(rd_T49 t895 t900).f0, t916⟩ : S49) ) (fun _ hk => hk); have hx36_1 := hcc36 1 _ rfl; (try simp only [show (k49).sz = 2 from rfl, Nat.mul_one, Nat.add_zero] at hx36_1); have hf36_1 := hfr36 1; (try simp only [show (k49).sz = 2 from rfl, Nat.mul_one, Nat.add_zero] at hf36_1); clear hcl36 hcc36 hfr36 hM36) | ((with_reducible refine gate_store (t := 3) (p := 34) rfl ?_); refine store_event (t := 3) (p := 34) (v := ?vo_w37) (w1 := (w35.setCell ⟨go27, (t900 : Int).toNat * 2 + 1, none⟩ (.int .i64 t916))) ?hg ?ho ?hn ?hr ?_; (case ho => rfl); (case hg => rfl); (case hn => rfl); (case hr => first | (go_simp; done) | (go_simp; rfl)); intro w37 hw; have hg : w35.grownBy w37 (some go27) := (by rw [hw]; exact HP36.2); have hp_ : Kd.R k49 49 w37 w.heap.size (fun _ => True) (.slice (some ⟨go27, 0, none⟩) t895.length co29) y919 := (by rw [hw, Ny919.out]; exact HP36.1); clear HP36; have n0_ := sk_' (IsS157.grown (by repeat (first | (with_reducible first | exact HI0.out | apply IsS157.alloc | apply IsS157.drewN | apply IsS157.drew | apply IsS157.set_1 | apply IsS157.set_2) | exact HI0.out)) hg (IsS157.own_ne HI0.out HO897.out (by decide))); have n1_ := sk_' (hp_); have n2_ := sk_' (Kd.R_over' (v := (.slice (some ⟨go27, 0, none⟩) t895.length co29)) (by (with_reducible repeat (first | apply ra_' | apply rn_' | apply rd1_')); exact HO915.out) (Kd.R_typed HO897.out) (by decide) hg); have n3_ := sk_' ((by rw [hw]; exact pt_' (HB.out) (Nat.le_trans HL.out GB27.out) : Below w0.heap.size w0 w37)); have n4_ := sk_' (KeepBut.trans (by repeat (first | (with_reducible first | exact HK.out | apply KeepBut.set_ | apply keep_drewN | apply keep_drew | apply keep_alloc) | exact HK.out)) (KeepBut.of_grown hg g) (Kd.R_base2 HO897.out)); clear HI0; clear HO897; clear HO915; clear HB; clear HK; have HI0 := n0_; have HO897 := n1_; have HO915 := n2_; have HB := n3_; have HK := n4_; clear n0_ n1_ n2_ n3_ n4_; clear hg hw hp_))
    go_ret
    exact ⟨_, by first | rfl | (simp [errW_none, errW_some] <;> rfl) | (simp [*, errW_none, errW_some] <;> rfl), by (with_reducible repeat (first | apply ra_' | apply rn_' | apply rd1_')); exact HO897.out, by repeat (first | (with_reducible first | exact HI0.out | apply IsS157.alloc | apply IsS157.drewN | apply IsS157.drew | apply IsS157.set_1 | apply IsS157.set_2) | exact HI0.out), by repeat (first | (with_reducible first | exact HB.out | apply pa_' | apply pn_' | apply pd_' | refine pt_' ?_ (IsS157.ge HI0.out)) | exact HB.out), by repeat (first | (with_reducible first | exact HK.out | apply KeepBut.set_ | apply keep_drewN | apply keep_drew | apply keep_alloc) | exact HK.out)⟩
   rw [if_neg c26] at H
   exact absurd H (by simp)
  rw [if_neg c25] at H
  exact absurd H (by simp)
 rw [if_neg c23] at H
 have c23b0 : (t903 == 1) = false := beq_eq_false_iff_ne.mpr c23
 have c23b1 : (t903 != 1) = true := bne_iff_ne.mpr c23
 simp only [Option.some.injEq, Prod.mk.injEq] at H
 obtain ⟨rfl, rfl, rfl⟩ := H
 go_enter Try.func101, Try.ntmps101
 go_wp2_with (first | ((with_reducible refine xj_' (f := 148) rfl ?_); refine goesL_ (some 6) rfl rfl Try.func148 (by kernel_rfl) rfl #[.pointer (some ⟨g, 0, none⟩)] rfl (by (try simp only [xm_', xc_', xn_']); first | done | rfl | (simp only [xd_', xt_']; rfl)) ?_; (with_reducible refine (spec_l14Draw.calls k g s0_0 s0_1 s0_2 t895 t898 t899 w0 _ ?side1 ?side2 A2.out).mono ?_); (case side1 => repeat (first | (with_reducible first | exact HI0.out | apply IsS157.alloc | apply IsS157.drewN | apply IsS157.drew | apply IsS157.set_1 | apply IsS157.set_2) | exact HI0.out)); (case side2 => repeat (first | (with_reducible first | exact HB.out | apply pa_' | apply pn_' | apply pd_' | refine pt_' ?_ (IsS157.ge HI0.out)) | exact HB.out)); rintro e w38 ⟨v896, rfl, ho0, hi, hb, hk⟩; refine ⟨_, rfl, ?_⟩; have n0_ := sk_' (Kd.R_lower ho0 (keep_size (w := w) (g := g) (row := none) (by repeat (first | (with_reducible first | exact HK.out | apply KeepBut.set_ | apply keep_drewN | apply keep_drew | apply keep_alloc) | exact HK.out)))); have n1_ := sk_' (KeepBut.trans (by repeat (first | (with_reducible first | exact HK.out | apply KeepBut.set_ | apply keep_drewN | apply keep_drew | apply keep_alloc) | exact HK.out)) hk (.inl rfl)); have n2_ := sk_' (hb); have n3_ := sk_' (hi); clear HK; clear HB; clear HI0; have HO897 := n0_; have HK := n1_; have HB := n2_; have HI0 := n3_; clear n0_ n1_ n2_ n3_; (try clear hb); (try clear hb2); (try clear hk); (try clear hi); (try clear ho0); obtain ⟨Ao39, co39, eo39⟩ := Kd.R_slice HO897.out; subst eo39) | ((with_reducible refine xj_' (f := 91) rfl ?_); refine goesL_ (some 14) rfl rfl Try.func91 (by kernel_rfl) rfl #[.pointer (some ⟨g, 0, none⟩), .int .i64 (t895.length : Int)] rfl (by (try simp only [xm_', xc_', xn_']); first | done | rfl | (simp only [xd_', xt_']; rfl)) ?_; (with_reducible refine (spec_l1Below.calls g s0_0 t898 t899 (t895.length : Int) t900 t901 t902 w0 _ ?side1 ?side2 A6.out).mono ?_); (case side1 => repeat (first | (with_reducible first | exact HI0.out | apply IsS157.alloc | apply IsS157.drewN | apply IsS157.drew | apply IsS157.set_1 | apply IsS157.set_2) | exact HI0.out)); (case side2 => repeat (first | (with_reducible first | exact HB.out | apply pa_' | apply pn_' | apply pd_' | refine pt_' ?_ (IsS157.ge HI0.out)) | exact HB.out)); rintro e w40 ⟨rfl, hi, hb, hk⟩; refine ⟨_, rfl, ?_⟩; have n0_ := sk_' (xi_' (Kd.R_keep (IsS157.apart (show IsS157 w0 _ g s0_0 t898 t899 from by repeat (first | (with_reducible first | exact HI0.out | apply IsS157.alloc | apply IsS157.drewN | apply IsS157.drew | apply IsS157.set_1 | apply IsS157.set_2) | exact HI0.out)) (by (with_reducible repeat (first | apply ra_' | apply rn_' | apply rd1_')); exact HO897.out) (by decide)) hk (fun _ h => h.2)) (fun _ h => h.1)); have n1_ := sk_' (KeepBut.trans (by repeat (first | (with_reducible first | exact HK.out | apply KeepBut.set_ | apply keep_drewN | apply keep_drew | apply keep_alloc) | exact HK.out)) hk (.inl rfl)); have n2_ := sk_' (hb); have n3_ := sk_' (hi); clear HO897; clear HK; clear HB; clear HI0; have HO897 := n0_; have HK := n1_; have HB := n2_; have HI0 := n3_; clear n0_ n1_ n2_ n3_; (try clear hb); (try clear hb2); (try clear hk); (try clear hi)) | ((with_reducible refine xj_' (f := 91) rfl ?_); refine goesL_ (some 16) rfl rfl Try.func91 (by kernel_rfl) rfl #[.pointer (some ⟨g, 0, none⟩), .int .i64 9] rfl (by (try simp only [xm_', xc_', xn_']); first | done | rfl | (simp only [xd_', xt_']; rfl)) ?_; (with_reducible refine (spec_l1Below.calls g s0_0 t901 t902 9 t903 t904 t905 w0 _ ?side1 ?side2 A7.out).mono ?_); (case side1 => repeat (first | (with_reducible first | exact HI0.out | apply IsS157.alloc | apply IsS157.drewN | apply IsS157.drew | apply IsS157.set_1 | apply IsS157.set_2) | exact HI0.out)); (case side2 => repeat (first | (with_reducible first | exact HB.out | apply pa_' | apply pn_' | apply pd_' | refine pt_' ?_ (IsS157.ge HI0.out)) | exact HB.out)); rintro e w41 ⟨rfl, hi, hb, hk⟩; refine ⟨_, rfl, ?_⟩; have n0_ := sk_' (xi_' (Kd.R_keep (IsS157.apart (show IsS157 w0 _ g s0_0 t901 t902 from by repeat (first | (with_reducible first | exact HI0.out | apply IsS157.alloc | apply IsS157.drewN | apply IsS157.drew | apply IsS157.set_1 | apply IsS157.set_2) | exact HI0.out)) (by (with_reducible repeat (first | apply ra_' | apply rn_' | apply rd1_')); exact HO897.out) (by decide)) hk (fun _ h => h.2)) (fun _ h => h.1)); have n1_ := sk_' (KeepBut.trans (by repeat (first | (with_reducible first | exact HK.out | apply KeepBut.set_ | apply keep_drewN | apply keep_drew | apply keep_alloc) | exact HK.out)) hk (.inl rfl)); have n2_ := sk_' (hb); have n3_ := sk_' (hi); clear HO897; clear HK; clear HB; clear HI0; have HO897 := n0_; have HK := n1_; have HB := n2_; have HI0 := n3_; clear n0_ n1_ n2_ n3_; (try clear hb); (try clear hb2); (try clear hk); (try clear hi)))
 go_ret
 exact ⟨_, by first | rfl | (simp [errW_none, errW_some] <;> rfl) | (simp [*, errW_none, errW_some] <;> rfl), by (with_reducible repeat (first | apply ra_' | apply rn_' | apply rd1_')); exact HO897.out, by repeat (first | (with_reducible first | exact HI0.out | apply IsS157.alloc | apply IsS157.drewN | apply IsS157.drew | apply IsS157.set_1 | apply IsS157.set_2) | exact HI0.out), by repeat (first | (with_reducible first | exact HB.out | apply pa_' | apply pn_' | apply pd_' | refine pt_' ?_ (IsS157.ge HI0.out)) | exact HB.out), by repeat (first | (with_reducible first | exact HK.out | apply KeepBut.set_ | apply keep_drewN | apply keep_drew | apply keep_alloc) | exact HK.out)⟩
end Go.Proofs.Ytbhlmeghbfmgiaa.F

namespace Go.Proofs.Ytbhlmeghbfmgiaa.F
open Go.RowKit Go.Proofs.YtbhlmeghbfmgiaaW.PrintWords Go.Proofs.YtbhlmeghbfmgiaaW.PrintLast Go.Proofs.YtbhlmeghbfmgiaaW.PrintMore
attribute [local go_sem] max2_int min2_int max_two min_two max_three min_three max_four min_four
set_option linter.unusedVariables false
set_option linter.unusedSimpArgs false
def spec_DrawShiftAll.f (k : Nat) (l0 : List Int) : Option ((List (S49)) × Int) := (spec_l1New.f k l0).bind fun bt920 => ((spec_l14Any.f k bt920.1 bt920.2.1 bt920.2.2).bind fun bt924 => ((spec_l1Int.f bt920.1 bt924.2.1 bt924.2.2 (([0, 100, (-1), (-500), 10000000, (-10000001)] : List Int))).bind fun bt932 => (some (bt924.1, bt932.1))))
set_option maxHeartbeats 8000000 in
set_option maxRecDepth 100000 in
theorem spec_DrawShiftAll.calls (k : Nat) (A0 : Option Addr) (c0 : Nat) (l0 : List Int) (r1 : List (S49)) (r2 : Int) (w : World) (hr0 : Kd.C (Kd.int .u8) w A0 l0.length l0) (hc0 : l0.length ≤ c0) (h : spec_DrawShiftAll.f k l0 = some (r1, r2)) :
  Calls Try.prog 28 #[.slice A0 l0.length c0] w fun e w' => ∃ v0_ : Value, e = .returned (.tuple #[v0_, .int .i64 r2]) ∧ Kd.R k49 49 w' w.heap.size (fun _ => True) v0_ r1 ∧ Below w.heap.size w w' := by
 have HR0 := sk_' hr0
 have HC0 := sk_' hc0
 clear hr0 hc0
 have HB := sk_' (Below.refl w.heap.size w)
 have H : ((spec_l1New.f k l0).bind fun bt920 => ((spec_l14Any.f k bt920.1 bt920.2.1 bt920.2.2).bind fun bt924 => ((spec_l1Int.f bt920.1 bt924.2.1 bt924.2.2 (([0, 100, (-1), (-500), 10000000, (-10000001)] : List Int))).bind fun bt932 => (some (bt924.1, bt932.1))))) = some (r1, r2) := h
 clear h
 replace H := bs_' H
 obtain ⟨⟨t920, t921, t922⟩, A20, H⟩ := H
 try dsimp only at H
 have A2 := sk_' A20
 clear A20
 replace H := bs_' H
 obtain ⟨⟨t924, t927, t928⟩, A30, H⟩ := H
 try dsimp only at H
 have A3 := sk_' A30
 clear A30
 obtain ⟨y929, hy929⟩ : ∃ y_ : List Int, y_ = (([0, 100, (-1), (-500), 10000000, (-10000001)] : List Int)) := ⟨_, rfl⟩
 replace H : ((spec_l1Int.f t920 t927 t928 y929).bind fun bt932 => (some (t924, bt932.1))) = some (r1, r2) := by first | (rw [hy929]; with_reducible exact H) | (have H2_ := (Option.bind_some _ _).symm.trans H; rw [hy929]; with_reducible exact H2_) | (have H2_ := (Option.bind_some _ _).symm.trans H; with_reducible exact H2_) | with_reducible exact H | (rw [hy929]; exact H) | exact H
 have Ny929 := sk_' hy929
 clear hy929
 replace H := bs_' H
 obtain ⟨⟨t932, t933, t934⟩, A40, H⟩ := H
 try dsimp only at H
 have A4 := sk_' A40
 clear A40
 simp only [Option.some.injEq, Prod.mk.injEq] at H
 obtain ⟨rfl, rfl⟩ := H
 go_enter Try.func28, Try.ntmps28
 go_wp2_with (first | ((with_reducible refine xj_' (f := 74) rfl ?_); refine goesL_ (some 7) rfl rfl Try.func74 (by kernel_rfl) rfl #[.slice A0 l0.length c0] rfl (by (try simp only [xm_', xc_', xn_']); first | done | rfl | (simp only [xd_', xt_']; rfl)) ?_; (with_reducible refine (spec_l1New.calls k _ _ l0 t920 t921 t922 w _ ?side1 ?side2 ?side3 A2.out).mono ?_); (case side1 => repeat (first | (with_reducible first | exact HB.out | apply pa_' | apply pn_' | apply pd_') | exact HB.out)); (case side2 => exact HR0.out); (case side3 => exact HC0.out); rintro e w5 ⟨g923, rfl, hi, hb, hb2⟩; refine ⟨_, rfl, ?_⟩; have n0_ := sk_' (hb); have n1_ := sk_' (hi); clear HB; have HB := n0_; have HI923 := n1_; clear n0_ n1_; (try clear hb); (try clear hb2); (try clear hk); (try clear hi)) | ((with_reducible refine xj_' (f := 101) rfl ?_); refine goesL_ (some 9) rfl rfl Try.func101 (by kernel_rfl) rfl #[.pointer (some ⟨g923, 0, none⟩)] rfl (by (try simp only [xm_', xc_', xn_']); first | done | rfl | (simp only [xd_', xt_']; rfl)) ?_; (with_reducible refine (spec_l14Any.calls k g923 t920 t921 t922 t924 t927 t928 w _ ?side1 ?side2 A3.out).mono ?_); (case side1 => repeat (first | (with_reducible first | exact HI923.out | apply IsS157.alloc | apply IsS157.drewN | apply IsS157.drew | apply IsS157.set_1 | apply IsS157.set_2) | exact HI923.out)); (case side2 => repeat (first | (with_reducible first | exact HB.out | apply pa_' | apply pn_' | apply pd_' | refine pt_' ?_ (IsS157.ge HI923.out)) | exact HB.out)); rintro e w6 ⟨v925, rfl, ho0, hi, hb, hk⟩; refine ⟨_, rfl, ?_⟩; have n0_ := sk_' (Kd.R_lower ho0 (ps_' (by repeat (first | (with_reducible first | exact HB.out | apply pa_' | apply pn_' | apply pd_' | refine pt_' ?_ (IsS157.ge HI923.out)) | exact HB.out)))); have n1_ := sk_' (hb); have n2_ := sk_' (hi); clear HB; clear HI923; have HO926 := n0_; have HB := n1_; have HI923 := n2_; clear n0_ n1_ n2_; (try clear hb); (try clear hb2); (try clear hk); (try clear hi); (try clear ho0)) | ((with_reducible refine gate_dst (N := 12) rfl ?_); refine Kd.R_lit (Kd.int .i64) _ 3 ?hg (N := 12) ?hd (xs := ([0, 100, (-1), (-500), 10000000, (-10000001)] : List Int)) (inner := [.int .i64 0, .int .i64 100, .int .i64 (-1), .int .i64 (-500), .int .i64 10000000, .int .i64 (-10000001)]) (ok := fun _ => True) (okp := fun _ => True) ?hr ?hp (fun _ hk => hk) trivial (Below.refl _ _) (Nat.le_refl _) (by simp) ?_; (case hd => rfl); (case hg => rfl); (case hr => first | (go_simp; done) | (go_simp; rfl)); (case hp => exact (Reps.one (show Kd.M (Kd.int .i64) _ _ _ 0 [.int .i64 0] from rfl) (Reps.one (show Kd.M (Kd.int .i64) _ _ _ 100 [.int .i64 100] from rfl) (Reps.one (show Kd.M (Kd.int .i64) _ _ _ (-1) [.int .i64 (-1)] from rfl) (Reps.one (show Kd.M (Kd.int .i64) _ _ _ (-500) [.int .i64 (-500)] from rfl) (Reps.one (show Kd.M (Kd.int .i64) _ _ _ 10000000 [.int .i64 10000000] from rfl) (Reps.one (show Kd.M (Kd.int .i64) _ _ _ (-10000001) [.int .i64 (-10000001)] from rfl) (Reps.none _ _)))))))); intro v930 w7 ho8 hb hg_ hnew_; clear hg_ hnew_; (first | rw [← Ny929.out] at ho8 | (simp only [Int.reduceToNat] at ho8; rw [← Ny929.out] at ho8)); have n0_ := sk_' (xb_' (by (with_reducible repeat (first | apply ra_' | apply rn_' | apply rd1_')); exact HO926.out) hb); have n1_ := sk_' (Kd.R_lower ho8 (ps_' (by repeat (first | (with_reducible first | exact HB.out | apply pa_' | apply pn_' | apply pd_' | refine pt_' ?_ (IsS157.ge HI923.out)) | exact HB.out)))); have n2_ := sk_' (IsS157.below (by repeat (first | (with_reducible first | exact HI923.out | apply IsS157.alloc | apply IsS157.drewN | apply IsS157.drew | apply IsS157.set_1 | apply IsS157.set_2) | exact HI923.out)) hb); have n3_ := sk_' (pp_' (by repeat (first | (with_reducible first | exact HB.out | apply pa_' | apply pn_' | apply pd_' | refine pt_' ?_ (IsS157.ge HI923.out)) | exact HB.out)) hb); clear HO926; clear HI923; clear HB; have HO926 := n0_; have HO931 := n1_; have HI923 := n2_; have HB := n3_; clear n0_ n1_ n2_ n3_; clear hb ho8; obtain ⟨Ao9, co9, eo9⟩ := Kd.R_slice HO931.out; subst eo9) | ((with_reducible refine xj_' (f := 78) rfl ?_); refine goesL_ (some 13) rfl rfl Try.func78 (by kernel_rfl) rfl #[.pointer (some ⟨g923, 0, none⟩), .slice Ao9 y929.length co9] rfl (by (try simp only [xm_', xc_', xn_']); first | done | rfl | (simp only [xd_', xt_']; rfl)) ?_; (with_reducible refine (spec_l1Int.calls g923 t920 t927 t928 _ _ y929 t932 t933 t934 w _ ?side1 ?side2 ?side3 ?side4 ?side5 A4.out).mono ?_); (case side1 => repeat (first | (with_reducible first | exact HI923.out | apply IsS157.alloc | apply IsS157.drewN | apply IsS157.drew | apply IsS157.set_1 | apply IsS157.set_2) | exact HI923.out)); (case side2 => repeat (first | (with_reducible first | exact HB.out | apply pa_' | apply pn_' | apply pd_' | refine pt_' ?_ (IsS157.ge HI923.out)) | exact HB.out)); (case side3 => repeat (first | exact (xr_' HO931.out).2.2 | (with_reducible refine xg_' ?_ _) | (with_reducible refine xe_' ?_ _) | (with_reducible refine xf_' ?_))); (case side4 => exact (xr_' HO931.out).2.1); (case side5 => exact far_slice (IsS157.own_ne HI923.out HO931.out (by decide))); rintro e w10 ⟨rfl, hi, hb, hk⟩; refine ⟨_, rfl, ?_⟩; have n0_ := sk_' (xi_' (Kd.R_keep (IsS157.apart (show IsS157 w _ g923 t920 t927 t928 from by repeat (first | (with_reducible first | exact HI923.out | apply IsS157.alloc | apply IsS157.drewN | apply IsS157.drew | apply IsS157.set_1 | apply IsS157.set_2) | exact HI923.out)) (by (with_reducible repeat (first | apply ra_' | apply rn_' | apply rd1_')); exact HO926.out) (by decide)) hk (fun _ h => h.2)) (fun _ h => h.1)); have n1_ := sk_' (xi_' (Kd.R_keep (IsS157.apart (show IsS157 w _ g923 t920 t927 t928 from by repeat (first | (with_reducible first | exact HI923.out | apply IsS157.alloc | apply IsS157.drewN | apply IsS157.drew | apply IsS157.set_1 | apply IsS157.set_2) | exact HI923.out)) (by (with_reducible repeat (first | apply ra_' | apply rn_' | apply rd1_')); exact HO931.out) (by decide)) hk (fun _ h => h.2)) (fun _ h => h.1)); have n2_ := sk_' (hb); have n3_ := sk_' (hi); clear HO926; clear HO931; clear HB; clear HI923; have HO926 := n0_; have HO931 := n1_; have HB := n2_; have HI923 := n3_; clear n0_ n1_ n2_ n3_; (try clear hb); (try clear hb2); (try clear hk); (try clear hi)))
 go_ret2
 exact ⟨_, by first | rfl | (simp [errW_none, errW_some] <;> rfl) | (simp [*, errW_none, errW_some] <;> rfl), by (with_reducible repeat (first | apply ra_' | apply rn_' | apply rd1_')); exact HO926.out, by repeat (first | (with_reducible first | exact HB.out | apply pa_' | apply pn_' | apply pd_' | refine pt_' ?_ (IsS157.ge HI923.out)) | exact HB.out)⟩
end Go.Proofs.Ytbhlmeghbfmgiaa.F

namespace Go.Proofs.Ytbhlmeghbfmgiaa.F
open Go.RowKit Go.Proofs.YtbhlmeghbfmgiaaW.PrintWords Go.Proofs.YtbhlmeghbfmgiaaW.PrintLast Go.Proofs.YtbhlmeghbfmgiaaW.PrintMore
attribute [local go_sem] max2_int min2_int max_two min_two max_three min_three max_four min_four
set_option linter.unusedVariables false
set_option linter.unusedSimpArgs false
def impl_Played_102.f (l0 : List (S49)) : Option ((List (S49))) := (some (([] : List (S49)) : List (S49))).bind fun y935 => (if y935.length + l0.length < 8796093022208 then (some (y935 ++ l0)) else (none))
set_option maxHeartbeats 8000000 in
set_option maxRecDepth 100000 in
theorem impl_Played_102.calls (A0 : Option Addr) (c0 : Nat) (l0 : List (S49)) (r : List (S49)) (w : World) (hr0 : Kd.C k49 w A0 l0.length l0) (hc0 : l0.length ≤ c0) (h : impl_Played_102.f l0 = some r) :
  Calls Try.prog 102 #[.slice A0 l0.length c0] w fun e w' => ∃ v0_ : Value, e = .returned (v0_) ∧ Kd.R k49 49 w' w.heap.size (fun _ => True) v0_ r ∧ Below w.heap.size w w' := by
 have HR0 := sk_' hr0
 have HC0 := sk_' hc0
 clear hr0 hc0
 have HB := sk_' (Below.refl w.heap.size w)
 have H : ((some (([] : List (S49)) : List (S49))).bind fun y935 => (if y935.length + l0.length < 8796093022208 then (some (y935 ++ l0)) else (none))) = some r := h
 clear h
 obtain ⟨y935, hy935⟩ : ∃ y_ : List (S49), y_ = (([] : List (S49))) := ⟨_, rfl⟩
 replace H : (if y935.length + l0.length < 8796093022208 then (some (y935 ++ l0)) else (none)) = some r := by first | (rw [hy935]; with_reducible exact H) | (have H2_ := (Option.bind_some _ _).symm.trans H; rw [hy935]; with_reducible exact H2_) | (have H2_ := (Option.bind_some _ _).symm.trans H; with_reducible exact H2_) | with_reducible exact H | (rw [hy935]; exact H) | exact H
 have Ny935 := sk_' hy935
 clear hy935
 by_cases c2 : y935.length + l0.length < 8796093022208
 ·
  rw [if_pos c2] at H
  have LMc2 := sk_' c2
  clear c2
  obtain ⟨y938, hy938⟩ : ∃ y_ : List (S49), y_ = (y935 ++ l0) := ⟨_, rfl⟩
  replace H : (some y938) = some r := by first | (rw [hy938]; with_reducible exact H) | (have H2_ := (Option.bind_some _ _).symm.trans H; rw [hy938]; with_reducible exact H2_) | (have H2_ := (Option.bind_some _ _).symm.trans H; with_reducible exact H2_) | with_reducible exact H | (rw [hy938]; exact H) | exact H
  have Ny938 := sk_' hy938
  clear hy938
  obtain rfl := Option.some.inj H
  go_enter Try.func102, Try.ntmps102
  go_wp2_with (first | ((with_reducible refine gate_dst (N := 3) rfl ?_); refine Kd.R_lit k49 _ 49 ?hg (N := 3) ?hd (xs := ([] : List (S49))) (inner := []) (ok := fun _ => True) (okp := fun _ => True) ?hr ?hp (fun _ hk => hk) trivial (Below.refl _ _) (Nat.le_refl _) (by simp) ?_; (case hd => rfl); (case hg => rfl); (case hr => first | (go_simp; done) | (go_simp; rfl)); (case hp => exact (Reps.none _ _)); intro v936 w3 ho4 hb hg_ hnew_; clear hg_ hnew_; (first | rw [← Ny935.out] at ho4 | (simp only [Int.reduceToNat] at ho4; rw [← Ny935.out] at ho4)); have n0_ := sk_' (Kd.R_lower ho4 (ps_' (by repeat (first | (with_reducible first | exact HB.out | apply pa_' | apply pn_' | apply pd_') | exact HB.out)))); have n1_ := sk_' (pp_' (by repeat (first | (with_reducible first | exact HB.out | apply pa_' | apply pn_' | apply pd_') | exact HB.out)) hb); clear HB; have HO937 := n0_; have HB := n1_; clear n0_ n1_; clear hb ho4) | ((with_reducible refine gate_builtin (b := .append) (xs := #[.tmp 3, .tmp 4]) rfl ?_); at_builtin; refine Kd.R_append_rows k49 (w0 := w) w.heap.size rfl (.tmp 3) (.tmp 4) 44 49 (.agg #[(.int .i64 0), (.int .i64 0)]) 16 rfl Try.underlying44 info49 rfl (by decide) (by omega) v936 y935 l0 _ _ _ (fun _ => True) (fun _ => False) rfl rfl ?aO ?aR (fun _ _ h => h) (fun _ h => h.elim) ?aF ?aB ?aS ?aL ?_; (case aR => repeat (first | exact (Kd.C_below HR0.out HB.out) | (with_reducible refine xg_' ?_ _) | (with_reducible refine xe_' ?_ _) | (with_reducible refine xf_' ?_))); (case aB => exact (by repeat (first | (with_reducible first | exact HB.out | apply pa_' | apply pn_' | apply pd_') | exact HB.out))); (case aF => exact (fun _ _ => trivial)); (case aO => exact (by (with_reducible repeat (first | apply ra_' | apply rn_' | apply rd1_')); exact HO937.out)); (case aS => exact (ps_' (by repeat (first | (with_reducible first | exact HB.out | apply pa_' | apply pn_' | apply pd_') | exact HB.out)))); (case aL => have := LMc2.out; omega); intro v939 w5 ho hb hg hat; rw [← Ny938.out] at ho; have n0_ := sk_' (hb); have n1_ := sk_' (ho); clear HB; clear HO937; have HB := n0_; have HO940 := n1_; clear n0_ n1_; clear ho hb hg hat))
  go_ret
  exact ⟨_, by first | rfl | (simp [errW_none, errW_some] <;> rfl) | (simp [*, errW_none, errW_some] <;> rfl), by (with_reducible repeat (first | apply ra_' | apply rn_' | apply rd1_')); exact HO940.out, by repeat (first | (with_reducible first | exact HB.out | apply pa_' | apply pn_' | apply pd_') | exact HB.out)⟩
 rw [if_neg c2] at H
 exact absurd H (by simp)
end Go.Proofs.Ytbhlmeghbfmgiaa.F

namespace Go.Proofs.Ytbhlmeghbfmgiaa.F
open Go.RowKit Go.Proofs.YtbhlmeghbfmgiaaW.PrintWords Go.Proofs.YtbhlmeghbfmgiaaW.PrintLast Go.Proofs.YtbhlmeghbfmgiaaW.PrintMore
attribute [local go_sem] max2_int min2_int max_two min_two max_three min_three max_four min_four
set_option linter.unusedVariables false
set_option linter.unusedSimpArgs false
mutual
def impl_ShiftAll.j0 : Nat → List (S49) → Int → List (S49) → Bool → Option ((List (S49)) × Bool)
 | 0, _, _, _, _ => none
 | k + 1, x0, x1, x6, x17 => if x17 = true then (some (x6, false)) else (impl_ShiftAll.l0 k x0 x1 x6 (x6.length : Int) 0)
def impl_ShiftAll.l0 : Nat → List (S49) → Int → List (S49) → Int → Int → Option ((List (S49)) × Bool)
 | 0, _, _, _, _, _ => none
 | k + 1, x0, x1, x6, x20, x21 => if x21 < x20 then (if 0 ≤ x21 then (if x21 < (x6.length : Int) then (impl_ShiftAll.l0 k x0 x1 (x6.set (x21 : Int).toNat (⟨wrap64 (((rd_T49 x6 x21).f0) + x1), (rd_T49 x6 x21).f1⟩ : S49)) x20 (wrap64 (x21 + 1))) else (none)) else (none)) else ((impl_IsPerformance.f k x6).bind fun t948 => (if t948 = true then (some (x6, true)) else ((impl_Played_102.f x0).bind fun t949 => (some (t949, false)))))
end
def impl_ShiftAll.f (k : Nat) (l0 : List (S49)) (a1 : Int) : Option ((List (S49)) × Bool) := (impl_Played_102.f l0).bind fun t941 => ((impl_IsPerformance.f k l0).bind fun t944 => (if t944 = true then ((impl_InRange.f a1 (-10000000) 10000000).bind fun t945 => (impl_ShiftAll.j0 k l0 a1 t941 (!t945))) else (impl_ShiftAll.j0 k l0 a1 t941 true)))
set_option maxHeartbeats 8000000 in
set_option maxRecDepth 100000 in
theorem impl_ShiftAll.calls (k : Nat) (A0 : Option Addr) (c0 : Nat) (l0 : List (S49)) (a1 : Int) (r1 : List (S49)) (r2 : Bool) (w : World) (hr0 : Kd.C k49 w A0 l0.length l0) (hc0 : l0.length ≤ c0) (h : impl_ShiftAll.f k l0 a1 = some (r1, r2)) :
  Calls Try.prog 29 #[.slice A0 l0.length c0, .int .i64 a1] w fun e w' => ∃ v0_ : Value, e = .returned (.tuple #[v0_, .bool r2]) ∧ Kd.R k49 49 w' w.heap.size (fun _ => True) v0_ r1 ∧ Below w.heap.size w w' := by
 have HR0 := sk_' hr0
 have HC0 := sk_' hc0
 clear hr0 hc0
 have HB := sk_' (Below.refl w.heap.size w)
 have H : ((impl_Played_102.f l0).bind fun t941 => ((impl_IsPerformance.f k l0).bind fun t944 => (if t944 = true then ((impl_InRange.f a1 (-10000000) 10000000).bind fun t945 => (impl_ShiftAll.j0 k l0 a1 t941 (!t945))) else (impl_ShiftAll.j0 k l0 a1 t941 true)))) = some (r1, r2) := h
 clear h
 replace H := bs_' H
 obtain ⟨t941, A30, H⟩ := H
 try dsimp only at H
 have A3 := sk_' A30
 clear A30
 have HC4 := sk_' H
 clear H
 go_enter Try.func29, Try.ntmps29
 go_upto_region 2 with (first | ((with_reducible refine xj_' (f := 102) rfl ?_); refine goesL_ (some 9) rfl rfl Try.func102 (by kernel_rfl) rfl #[.slice A0 l0.length c0] rfl (by (try simp only [xm_', xc_', xn_']); first | done | rfl | (simp only [xd_', xt_']; rfl)) ?_; (with_reducible refine (impl_Played_102.calls _ _ l0 t941 _ ?side1 ?side2 A3.out).mono ?_); (case side1 => repeat (first | exact HR0.out | (with_reducible refine xg_' ?_ _) | (with_reducible refine xe_' ?_ _) | (with_reducible refine xf_' ?_))); (case side2 => exact HC0.out); rintro e w5 ⟨v942, rfl, ho0, hb⟩; refine ⟨_, rfl, ?_⟩; have n0_ := sk_' (Kd.R_lower ho0 (ps_' (by repeat (first | (with_reducible first | exact HB.out | apply pa_' | apply pn_' | apply pd_') | exact HB.out)))); have n1_ := sk_' (pp_' (by repeat (first | (with_reducible first | exact HB.out | apply pa_' | apply pn_' | apply pd_') | exact HB.out)) hb); clear HB; have HO943 := n0_; have HB := n1_; clear n0_ n1_; (try clear hb); (try clear hb2); (try clear hk); (try clear hi); (try clear ho0)))
 (try simp only [Act.put, sa_', sz_', sc_'])
 go_cut [17] (fun v17 wc => ∃ (kq : Nat) (x17_3 : Bool), v17 = .bool x17_3 ∧ Aside0 (impl_ShiftAll.j0 kq l0 a1 t941 x17_3 = some (r1, r2)) ∧ Aside0 (kq ≤ k) ∧ Aside0 (Kd.R k49 49 wc w.heap.size (fun _ => True) v942 t941) ∧ Aside0 (Below w.heap.size w wc))
 case first =>
  have H := HC4.out
  clear HC4
  replace H := bs_' H
  obtain ⟨t944, A60, H⟩ := H
  try dsimp only at H
  have A6 := sk_' A60
  clear A60
  by_cases c7 : t944 = true
  ·
   subst c7
   rw [if_pos rfl] at H
   replace H := bs_' H
   obtain ⟨t945, A80, H⟩ := H
   try dsimp only at H
   have A8 := sk_' A80
   clear A80
   have H' := sk_' H
   clear H
   go_wp2_with (first | ((with_reducible refine xj_' (f := 25) rfl ?_); refine goesL_ (some 11) rfl rfl Try.func25 (by kernel_rfl) rfl #[.slice A0 l0.length c0] rfl (by (try simp only [xm_', xc_', xn_']); first | done | rfl | (simp only [xd_', xt_']; rfl)) ?_; (with_reducible refine (impl_IsPerformance.calls k _ _ l0 true _ ?side1 ?side2 A6.out).mono ?_); (case side1 => repeat (first | exact (Kd.C_below HR0.out HB.out) | (with_reducible refine xg_' ?_ _) | (with_reducible refine xe_' ?_ _) | (with_reducible refine xf_' ?_))); (case side2 => exact HC0.out); rintro e w9 ⟨rfl, hb⟩; refine ⟨_, rfl, ?_⟩; have n0_ := sk_' (xb_' (by (with_reducible repeat (first | apply ra_' | apply rn_' | apply rd1_')); exact HO943.out) hb); have n1_ := sk_' (pp_' (by repeat (first | (with_reducible first | exact HB.out | apply pa_' | apply pn_' | apply pd_') | exact HB.out)) hb); clear HO943; clear HB; have HO943 := n0_; have HB := n1_; clear n0_ n1_; (try clear hb); (try clear hb2); (try clear hk); (try clear hi)) | (go_at_call 86; (with_reducible refine (impl_InRange.calls a1 (-10000000) 10000000 t945 _ A8.out).mono ?_); rintro e w' ⟨rfl, ⟨nd, rfl⟩⟩))
   go_meet
   case rel => exact ⟨_, (!t945), (by first | rfl | (simp; done) | (simp [*]; done)), H', ⟨by first | omega | exact Nat.le_refl _⟩, ⟨by (with_reducible repeat (first | apply ra_' | apply rn_' | apply rd1_')); exact HO943.out⟩, ⟨by repeat (first | (with_reducible first | exact HB.out | apply pa_' | apply pn_' | apply pd_') | exact HB.out)⟩⟩
  replace c7 := Bool.eq_false_iff.mpr c7
  subst c7
  rw [if_neg (show ¬ (false = true) by decide)] at H
  have H' := sk_' H
  clear H
  go_wp2_with (first | ((with_reducible refine xj_' (f := 25) rfl ?_); refine goesL_ (some 11) rfl rfl Try.func25 (by kernel_rfl) rfl #[.slice A0 l0.length c0] rfl (by (try simp only [xm_', xc_', xn_']); first | done | rfl | (simp only [xd_', xt_']; rfl)) ?_; (with_reducible refine (impl_IsPerformance.calls k _ _ l0 false _ ?side1 ?side2 A6.out).mono ?_); (case side1 => repeat (first | exact (Kd.C_below HR0.out HB.out) | (with_reducible refine xg_' ?_ _) | (with_reducible refine xe_' ?_ _) | (with_reducible refine xf_' ?_))); (case side2 => exact HC0.out); rintro e w10 ⟨rfl, hb⟩; refine ⟨_, rfl, ?_⟩; have n0_ := sk_' (xb_' (by (with_reducible repeat (first | apply ra_' | apply rn_' | apply rd1_')); exact HO943.out) hb); have n1_ := sk_' (pp_' (by repeat (first | (with_reducible first | exact HB.out | apply pa_' | apply pn_' | apply pd_') | exact HB.out)) hb); clear HO943; clear HB; have HO943 := n0_; have HB := n1_; clear n0_ n1_; (try clear hb); (try clear hb2); (try clear hk); (try clear hi)))
  go_meet
  case rel => exact ⟨_, (true), (by first | rfl | (simp; done) | (simp [*]; done)), H', ⟨by first | omega | exact Nat.le_refl _⟩, ⟨by (with_reducible repeat (first | apply ra_' | apply rn_' | apply rd1_')); exact HO943.out⟩, ⟨by repeat (first | (with_reducible first | exact HB.out | apply pa_' | apply pn_' | apply pd_') | exact HB.out)⟩⟩
 case rest =>
  clear HC4
  try clear c1
  try clear c2
  try clear p2
  try clear c7
  try clear c10
  obtain ⟨kq, x17_3, rfl, HA, HJ3, HO_6, HB⟩ := hcut
  cases kq with
  | zero => exact absurd HA.out (by simp [impl_ShiftAll.j0])
  | succ kj3 =>
   have H := HA.out
   clear HA
   simp only [impl_ShiftAll.j0] at H
   by_cases c11 : x17_3 = true
   ·
    subst c11
    rw [if_pos rfl] at H
    simp only [Option.some.injEq, Prod.mk.injEq] at H
    obtain ⟨rfl, rfl⟩ := H
    go_wp2
    go_ret2
    exact ⟨_, by first | rfl | (simp [errW_none, errW_some] <;> rfl) | (simp [*, errW_none, errW_some] <;> rfl), by (with_reducible repeat (first | apply ra_' | apply rn_' | apply rd1_')); exact HO_6.out, by repeat (first | (with_reducible first | exact HB.out | apply pa_' | apply pn_' | apply pd_') | exact HB.out)⟩
   replace c11 := Bool.eq_false_iff.mpr c11
   subst c11
   rw [if_neg (show ¬ (false = true) by decide)] at H
   have H' := sk_' H
   clear H
   obtain ⟨Ao12, co12, eo12⟩ := Kd.R_slice HO_6.out
   subst eo12
   go_wp2
   go_loopg [21] kj3 (fun kq v21 w' => ∃ (x6_2 : List (S49)) (x21_2 : Int), v21 = .int .i64 x21_2 ∧ Aside0 (impl_ShiftAll.l0 kq l0 a1 x6_2 (t941.length : Int) x21_2 = some (r1, r2)) ∧ Aside0 (kq ≤ kj3) ∧ Aside0 (Kd.R k49 49 w' w.heap.size (fun _ => True) (.slice Ao12 t941.length co12) x6_2) ∧ Aside0 (Below w.heap.size w w'))
   case atStart => exact ⟨(t941), (0), (by first | rfl | (simp; done) | (simp [*]; done)), H', ⟨Nat.le_refl _⟩, ⟨by (with_reducible repeat (first | apply ra_' | apply rn_' | apply rd1_')); exact HO_6.out⟩, ⟨by repeat (first | (with_reducible first | exact HB.out | apply pa_' | apply pn_' | apply pd_') | exact HB.out)⟩⟩
   case round =>
    clear H'
    try clear c1
    try clear c2
    try clear p2
    try clear c7
    try clear c10
    try clear c11
    try clear p2
    obtain ⟨x6_2, x21_2, rfl, HA, HK2, HO_6, HB⟩ := hrel
    have hl6_2 := (xr_' HO_6.out).1
    rw [hl6_2] at HO_6
    (try simp only [hl6_2])
    cases gk with
    | zero => exact absurd HA.out (by simp [impl_ShiftAll.l0])
    | succ k2 =>
     have H := HA.out
     clear HA
     simp only [impl_ShiftAll.l0] at H
     by_cases c13 : x21_2 < (t941.length : Int)
     ·
      rw [if_pos c13] at H
      have c13b0 : decide (x21_2 < (t941.length : Int)) = true := decide_eq_true c13
      clear c13
      by_cases c14 : 0 ≤ x21_2
      ·
       rw [if_pos c14] at H
       have c14b0 : decide (0 ≤ x21_2) = true := decide_eq_true c14
       clear c14
       by_cases c15 : x21_2 < (x6_2.length : Int)
       ·
        rw [if_pos c15] at H
        have c15b0 : decide (x21_2 < (x6_2.length : Int)) = true := decide_eq_true c15
        clear c15
        obtain ⟨y947, hy947⟩ : ∃ y_ : List (S49), y_ = (x6_2.set (x21_2 : Int).toNat (⟨wrap64 (((rd_T49 x6_2 x21_2).f0) + a1), (rd_T49 x6_2 x21_2).f1⟩ : S49)) := ⟨_, rfl⟩
        replace H : (impl_ShiftAll.l0 k2 l0 a1 y947 (t941.length : Int) (wrap64 (x21_2 + 1))) = some (r1, r2) := by first | (rw [hy947]; with_reducible exact H) | (have H2_ := (Option.bind_some _ _).symm.trans H; rw [hy947]; with_reducible exact H2_) | (have H2_ := (Option.bind_some _ _).symm.trans H; with_reducible exact H2_) | with_reducible exact H | (rw [hy947]; exact H) | exact H
        have Ny947 := sk_' hy947
        clear hy947
        have H' := sk_' H
        clear H
        have p946 : 0 ≤ (x21_2 : Int) := od_' (by first | (with_reducible assumption) | assumption)
        have q946 : x21_2 < (x6_2.length : Int) := od_' (by first | (with_reducible assumption) | assumption)
        obtain ⟨ad946, e946, hx946_0, hx946_1⟩ := at_T49 (xr_' HO_6.out).2.2 x21_2 p946 q946
        cases e946
        replace p946 := eq_true p946
        replace q946 := eq_true q946
        have p16 : 0 ≤ (x21_2 : Int) := od_' (by first | (with_reducible assumption) | assumption)
        have q16 : (x21_2 : Int) < ((x6_2.length : Int) : Int) := od_' (by first | (with_reducible assumption) | assumption)
        obtain ⟨go16, co16, eo16, gb16, gl16, cl16, HG16⟩ := Kd.R_form HO_6.out (by omega)
        (first | cases eo16 | (injection eo16 with ea_ en_ ec_; (first | subst ea_ | (injection ea_ with ea_; subst ea_)); subst ec_; clear en_))
        have GB16 := sk_' gb16
        have GG16 := sk_' HG16
        clear gb16 gl16 HG16
        (first | simp only [add_plain] at hx946_0 | skip)
        (first | simp only [add_plain] at hx946_1 | skip)
        obtain ⟨ce16, hcl16, hM16, hcc16, hfr16⟩ := Kd.R_elem HO_6.out z49 (x21_2 : Int) p16 q16
        obtain rfl := k49_openM hM16
        have hx16_0 : wr.cell? ⟨go16, (x21_2 : Int).toNat * 2, none⟩ = some (.int .i64 ((rd_T49 x6_2 x21_2).f0)) := hcc16 0 _ rfl
        have hx16_1 : wr.cell? ⟨go16, (x21_2 : Int).toNat * 2 + 1, none⟩ = some (.int .i64 ((rd_T49 x6_2 x21_2).f1)) := hcc16 1 _ rfl
        have hf16_0 : wr.frozen? ⟨go16, (x21_2 : Int).toNat * 2, none⟩ = false := hfr16 0
        have hf16_1 : wr.frozen? ⟨go16, (x21_2 : Int).toNat * 2 + 1, none⟩ = false := hfr16 1
        clear hcl16 hcc16 hfr16 hM16
        replace p16 := eq_true p16
        replace q16 := eq_true q16
        have HX17 := sk_' (show Kd.R k49 49 wr w.heap.size (fun _ => True) (.slice (some ⟨go16, 0, none⟩) x6_2.length co12) x6_2 from (by (with_reducible repeat (first | apply ra_' | apply rn_' | apply rd1_')); exact HO_6.out))
        obtain ⟨ce17, hcl17, hM17, hcc17, hfr17⟩ := Kd.R_elem HX17.out z49 (x21_2 : Int) (od_' (by first | (with_reducible assumption) | assumption)) (by have h_ : (x21_2 : Int) < ((x6_2.length : Int) : Int) := od_' (by first | (with_reducible assumption) | assumption); first | exact h_ | (have e_ := (xr_' HO_6.out).1; omega) | simpa using h_)
        obtain rfl := k49_openM hM17
        have HP17 := Kd.R_seg HX17.out (x21_2 : Int) (od_' (by first | (with_reducible assumption) | assumption)) (by have h_ : (x21_2 : Int) < ((x6_2.length : Int) : Int) := od_' (by first | (with_reducible assumption) | assumption); first | exact h_ | (have e_ := (xr_' HO_6.out).1; omega) | simpa using h_) (seg := [.int .i64 (wrap64 (((rd_T49 x6_2 x21_2).f0) + a1))]) (j := 0) hcl17 hcc17 (show 1 ≤ 2 from by decide) (x' := (⟨wrap64 (((rd_T49 x6_2 x21_2).f0) + a1), (rd_T49 x6_2 x21_2).f1⟩ : S49)) (k49_mkM _ _ _ (⟨wrap64 (((rd_T49 x6_2 x21_2).f0) + a1), (rd_T49 x6_2 x21_2).f1⟩ : S49) ) (fun _ hk => hk)
        have hx17_0 := hcc17 0 _ rfl
        (try simp only [show (k49).sz = 2 from rfl, Nat.mul_one, Nat.add_zero] at hx17_0)
        have hf17_0 := hfr17 0
        (try simp only [show (k49).sz = 2 from rfl, Nat.mul_one, Nat.add_zero] at hf17_0)
        clear hcl17 hcc17 hfr17 hM17
        go_wp2_with (first | ((with_reducible refine gate_store (t := 3) (p := 32) rfl ?_); refine store_event (t := 3) (p := 32) (v := ?vo_w18) (w1 := (wr.setCell ⟨go16, (x21_2 : Int).toNat * 2, none⟩ (.int .i64 (wrap64 (((rd_T49 x6_2 x21_2).f0) + a1))))) ?hg ?ho ?hn ?hr ?_; (case ho => rfl); (case hg => rfl); (case hn => rfl); (case hr => first | (go_simp; done) | (go_simp; rfl)); intro w18 hw; have hg : wr.grownBy w18 (some go16) := (by rw [hw]; exact HP17.2); have hp_ : Kd.R k49 49 w18 w.heap.size (fun _ => True) (.slice (some ⟨go16, 0, none⟩) x6_2.length co12) y947 := (by rw [hw, Ny947.out]; exact HP17.1); clear HP17; have n0_ := sk_' (hp_); have n1_ := sk_' ((by rw [hw]; exact pt_' (HB.out) GB16.out : Below w.heap.size w w18)); clear HO_6; clear HB; have HO_6 := n0_; have HB := n1_; clear n0_ n1_; clear hg hw hp_))
        (try simp only [← hl6_2])
        go_roundg k2
        case measure => have := HJ3.out; have := HK2.out; omega
        case rel => exact ⟨(y947), (wrap64 (x21_2 + 1)), (by first | rfl | (simp; done) | (simp [*]; done)), H', ⟨by have := HJ3.out; have := HK2.out; omega⟩, ⟨by (try simp only [hl6_2]); (with_reducible repeat (first | apply ra_' | apply rn_' | apply rd1_')); exact HO_6.out⟩, ⟨by repeat (first | (with_reducible first | exact HB.out | apply pa_' | apply pn_' | apply pd_') | exact HB.out)⟩⟩
       rw [if_neg c15] at H
       exact absurd H (by simp)
      rw [if_neg c14] at H
      exact absurd H (by simp)
     rw [if_neg c13] at H
     have c13b0 : decide (x21_2 < (t941.length : Int)) = false := decide_eq_false c13
     (try rw [hl6_2] at c13b0)
     clear c13
     replace H := bs_' H
     obtain ⟨t948, A190, H⟩ := H
     try dsimp only at H
     have A19 := sk_' A190
     clear A190
     by_cases c20 : t948 = true
     ·
      subst c20
      rw [if_pos rfl] at H
      simp only [Option.some.injEq, Prod.mk.injEq] at H
      obtain ⟨rfl, rfl⟩ := H
      go_wp2_with (first | ((with_reducible refine xj_' (f := 25) rfl ?_); refine goesL_ (some 35) rfl rfl Try.func25 (by kernel_rfl) rfl #[.slice Ao12 x6_2.length co12] rfl (by (try simp only [xm_', xc_', xn_']); first | done | rfl | (simp only [xd_', xt_']; rfl)) ?_; (with_reducible refine (impl_IsPerformance.calls k2 _ _ x6_2 true _ ?side1 ?side2 A19.out).mono ?_); (case side1 => repeat (first | exact (xr_' HO_6.out).2.2 | (with_reducible refine xg_' ?_ _) | (with_reducible refine xe_' ?_ _) | (with_reducible refine xf_' ?_))); (case side2 => exact (xr_' HO_6.out).2.1); rintro e w21 ⟨rfl, hb⟩; refine ⟨_, rfl, ?_⟩; have n0_ := sk_' (xb_' (by (with_reducible repeat (first | apply ra_' | apply rn_' | apply rd1_')); exact HO_6.out) hb); have n1_ := sk_' (pp_' (by repeat (first | (with_reducible first | exact HB.out | apply pa_' | apply pn_' | apply pd_') | exact HB.out)) hb); clear HO_6; clear HB; have HO_6 := n0_; have HB := n1_; clear n0_ n1_; (try clear hb); (try clear hb2); (try clear hk); (try clear hi)))
      go_ret2
      exact ⟨_, by first | rfl | (simp [errW_none, errW_some] <;> rfl) | (simp [*, errW_none, errW_some] <;> rfl), by (with_reducible repeat (first | apply ra_' | apply rn_' | apply rd1_')); exact HO_6.out, by repeat (first | (with_reducible first | exact HB.out | apply pa_' | apply pn_' | apply pd_') | exact HB.out)⟩
     replace c20 := Bool.eq_false_iff.mpr c20
     subst c20
     rw [if_neg (show ¬ (false = true) by decide)] at H
     replace H := bs_' H
     obtain ⟨t949, A220, H⟩ := H
     try dsimp only at H
     have A22 := sk_' A220
     clear A220
     simp only [Option.some.injEq, Prod.mk.injEq] at H
     obtain ⟨rfl, rfl⟩ := H
     go_wp2_with (first | ((with_reducible refine xj_' (f := 25) rfl ?_); refine goesL_ (some 35) rfl rfl Try.func25 (by kernel_rfl) rfl #[.slice Ao12 x6_2.length co12] rfl (by (try simp only [xm_', xc_', xn_']); first | done | rfl | (simp only [xd_', xt_']; rfl)) ?_; (with_reducible refine (impl_IsPerformance.calls k2 _ _ x6_2 false _ ?side1 ?side2 A19.out).mono ?_); (case side1 => repeat (first | exact (xr_' HO_6.out).2.2 | (with_reducible refine xg_' ?_ _) | (with_reducible refine xe_' ?_ _) | (with_reducible refine xf_' ?_))); (case side2 => exact (xr_' HO_6.out).2.1); rintro e w23 ⟨rfl, hb⟩; refine ⟨_, rfl, ?_⟩; have n0_ := sk_' (xb_' (by (with_reducible repeat (first | apply ra_' | apply rn_' | apply rd1_')); exact HO_6.out) hb); have n1_ := sk_' (pp_' (by repeat (first | (with_reducible first | exact HB.out | apply pa_' | apply pn_' | apply pd_') | exact HB.out)) hb); clear HO_6; clear HB; have HO_6 := n0_; have HB := n1_; clear n0_ n1_; (try clear hb); (try clear hb2); (try clear hk); (try clear hi)) | ((with_reducible refine xj_' (f := 102) rfl ?_); refine goesL_ (some 38) rfl rfl Try.func102 (by kernel_rfl) rfl #[.slice A0 l0.length c0] rfl (by (try simp only [xm_', xc_', xn_']); first | done | rfl | (simp only [xd_', xt_']; rfl)) ?_; (with_reducible refine (impl_Played_102.calls _ _ l0 t949 _ ?side1 ?side2 A22.out).mono ?_); (case side1 => repeat (first | exact (Kd.C_below HR0.out HB.out) | (with_reducible refine xg_' ?_ _) | (with_reducible refine xe_' ?_ _) | (with_reducible refine xf_' ?_))); (case side2 => exact HC0.out); rintro e w24 ⟨v950, rfl, ho0, hb⟩; refine ⟨_, rfl, ?_⟩; have n0_ := sk_' (Kd.R_elder' (by (with_reducible repeat (first | apply ra_' | apply rn_' | apply rd1_')); exact HO_6.out) (Kd.R_base ho0) hb); have n1_ := sk_' (Kd.R_lower (Kd.R_new' ho0 (Kd.R_lt (by (with_reducible repeat (first | apply ra_' | apply rn_' | apply rd1_')); exact HO_6.out))) (ps_' (by repeat (first | (with_reducible first | exact HB.out | apply pa_' | apply pn_' | apply pd_') | exact HB.out)))); have n2_ := sk_' (pp_' (by repeat (first | (with_reducible first | exact HB.out | apply pa_' | apply pn_' | apply pd_') | exact HB.out)) hb); clear HO_6; clear HB; have HO_6 := n0_; have HO951 := n1_; have HB := n2_; clear n0_ n1_ n2_; (try clear hb); (try clear hb2); (try clear hk); (try clear hi); (try clear ho0)))
     go_ret2
     exact ⟨_, by first | rfl | (simp [errW_none, errW_some] <;> rfl) | (simp [*, errW_none, errW_some] <;> rfl), by (with_reducible repeat (first | apply ra_' | apply rn_' | apply rd1_')); exact xi_' HO951.out (fun _ hk => trivial), by repeat (first | (with_reducible first | exact HB.out | apply pa_' | apply pn_' | apply pd_') | exact HB.out)⟩
end Go.Proofs.Ytbhlmeghbfmgiaa.F

namespace Go.Proofs.Ytbhlmeghbfmgiaa.F
open Go.RowKit Go.Proofs.YtbhlmeghbfmgiaaW.PrintWords Go.Proofs.YtbhlmeghbfmgiaaW.PrintLast Go.Proofs.YtbhlmeghbfmgiaaW.PrintMore
attribute [local go_sem] max2_int min2_int max_two min_two max_three min_three max_four min_four
set_option linter.unusedVariables false
set_option linter.unusedSimpArgs false
def laws_sameInts.l0 : Nat → List Int → List Int → Int → Option (Bool)
 | 0, _, _, _ => none
 | k + 1, x0, x1, x5 => if x5 < (x0.length : Int) then (if 0 ≤ x5 then (if x5 < (x1.length : Int) then (if (rd x0 x5) = (rd x1 x5) then (laws_sameInts.l0 k x0 x1 (wrap64 (x5 + 1))) else (some false)) else (none)) else (none)) else (some true)
def laws_sameInts.f (k : Nat) (l0 : List Int) (l1 : List Int) : Option (Bool) := if (l0.length : Int) = (l1.length : Int) then (laws_sameInts.l0 k l0 l1 0) else (some false)
set_option maxHeartbeats 8000000 in
set_option maxRecDepth 100000 in
theorem laws_sameInts.calls (k : Nat) (A0 : Option Addr) (c0 : Nat) (l0 : List Int) (A1 : Option Addr) (c1 : Nat) (l1 : List Int) (r : Bool) (w : World) (hr0 : Kd.C (Kd.int .i64) w A0 l0.length l0) (hc0 : l0.length ≤ c0) (hr1 : Kd.C (Kd.int .i64) w A1 l1.length l1) (hc1 : l1.length ≤ c1) (h : laws_sameInts.f k l0 l1 = some r) :
  Calls Try.prog 30 #[.slice A0 l0.length c0, .slice A1 l1.length c1] w fun e w' => e = .returned (.bool r) ∧ Drawn0 w w' := by
 have HR0 := sk_' hr0
 have HC0 := sk_' hc0
 clear hr0 hc0
 have HR1 := sk_' hr1
 have HC1 := sk_' hc1
 clear hr1 hc1
 have H : (if (l0.length : Int) = (l1.length : Int) then (laws_sameInts.l0 k l0 l1 0) else (some false)) = some r := h
 clear h
 by_cases c3 : (l0.length : Int) = (l1.length : Int)
 ·
  rw [if_pos c3] at H
  have c3b0 : ((l0.length : Int) == (l1.length : Int)) = true := beq_iff_eq.mpr c3
  have c3b1 : ((l0.length : Int) != (l1.length : Int)) = false := bne_eq_false_iff_eq.mpr c3
  have c3b2 : (l0.length == l1.length) = true := by first | simpa using c3 | (simp at c3 ⊢; omega)
  clear c3
  have H' := sk_' H
  clear H
  go_enter Try.func30, Try.ntmps30
  go_wp2
  repeat (go_quiet (fail); try go_wp2)
  go_loopg [5] k (fun kq v5 w' => ∃ (x5_1 : Int), v5 = .int .i64 x5_1 ∧ Aside0 (laws_sameInts.l0 kq l0 l1 x5_1 = some r) ∧ Aside0 (kq ≤ k) ∧ Drawn0 w w')
  case atStart => exact ⟨(0), (by first | rfl | (simp; done) | (simp [*]; done)), H', ⟨Nat.le_refl _⟩, by repeat (first | exact Drawn0.refl _ | apply Drawn0.step)⟩
  case round =>
   clear H'
   try clear c1
   try clear p2
   try clear c3
   try clear c3b0
   try clear c3b1
   try clear c3b2
   obtain ⟨x5_1, rfl, HA, HK1, ⟨m1, rfl⟩⟩ := hrel
   cases gk with
   | zero => exact absurd HA.out (by simp [laws_sameInts.l0])
   | succ k1 =>
    have H := HA.out
    clear HA
    simp only [laws_sameInts.l0] at H
    by_cases c4 : x5_1 < (l0.length : Int)
    ·
     rw [if_pos c4] at H
     have c4b0 : decide (x5_1 < (l0.length : Int)) = true := decide_eq_true c4
     clear c4
     by_cases c5 : 0 ≤ x5_1
     ·
      rw [if_pos c5] at H
      have c5b0 : decide (0 ≤ x5_1) = true := decide_eq_true c5
      clear c5
      by_cases c6 : x5_1 < (l1.length : Int)
      ·
       rw [if_pos c6] at H
       have c6b0 : decide (x5_1 < (l1.length : Int)) = true := decide_eq_true c6
       clear c6
       by_cases c7 : (rd l0 x5_1) = (rd l1 x5_1)
       ·
        rw [if_pos c7] at H
        have c7b0 : ((rd l0 x5_1) == (rd l1 x5_1)) = true := beq_iff_eq.mpr c7
        have c7b1 : ((rd l0 x5_1) != (rd l1 x5_1)) = false := bne_eq_false_iff_eq.mpr c7
        clear c7
        have H' := sk_' H
        clear H
        have p952 : 0 ≤ (x5_1 : Int) := od_' (by first | (with_reducible assumption) | assumption)
        have q952 : x5_1 < (l0.length : Int) := od_' (by first | (with_reducible assumption) | assumption)
        obtain ⟨ad952, e952, hx952_0⟩ := Kd.at_int HR0.out x5_1 p952 q952
        cases e952
        replace p952 := eq_true p952
        replace q952 := eq_true q952
        have p953 : 0 ≤ (x5_1 : Int) := od_' (by first | (with_reducible assumption) | assumption)
        have q953 : x5_1 < (l1.length : Int) := od_' (by first | (with_reducible assumption) | assumption)
        obtain ⟨ad953, e953, hx953_0⟩ := Kd.at_int HR1.out x5_1 p953 q953
        cases e953
        replace p953 := eq_true p953
        replace q953 := eq_true q953
        go_wp2
        repeat (go_quiet (fail); try go_wp2)
        go_roundg k1
        case measure => have := HK1.out; omega
        case rel => exact ⟨(wrap64 (x5_1 + 1)), (by first | rfl | (simp; done) | (simp [*]; done)), H', ⟨by have := HK1.out; omega⟩, by repeat (first | exact Drawn0.refl _ | apply Drawn0.step)⟩
       rw [if_neg c7] at H
       have c7b0 : ((rd l0 x5_1) == (rd l1 x5_1)) = false := beq_eq_false_iff_ne.mpr c7
       have c7b1 : ((rd l0 x5_1) != (rd l1 x5_1)) = true := bne_iff_ne.mpr c7
       obtain rfl := Option.some.inj H
       have p952 : 0 ≤ (x5_1 : Int) := od_' (by first | (with_reducible assumption) | assumption)
       have q952 : x5_1 < (l0.length : Int) := od_' (by first | (with_reducible assumption) | assumption)
       obtain ⟨ad952, e952, hx952_0⟩ := Kd.at_int HR0.out x5_1 p952 q952
       cases e952
       replace p952 := eq_true p952
       replace q952 := eq_true q952
       have p953 : 0 ≤ (x5_1 : Int) := od_' (by first | (with_reducible assumption) | assumption)
       have q953 : x5_1 < (l1.length : Int) := od_' (by first | (with_reducible assumption) | assumption)
       obtain ⟨ad953, e953, hx953_0⟩ := Kd.at_int HR1.out x5_1 p953 q953
       cases e953
       replace p953 := eq_true p953
       replace q953 := eq_true q953
       go_wp2
       repeat (go_quiet (fail); try go_wp2)
       go_ret
       exact ⟨by first | rfl | (simp; done) | (simp [*]; done), by repeat (first | exact Drawn0.refl _ | apply Drawn0.step)⟩
      rw [if_neg c6] at H
      exact absurd H (by simp)
     rw [if_neg c5] at H
     exact absurd H (by simp)
    rw [if_neg c4] at H
    have c4b0 : decide (x5_1 < (l0.length : Int)) = false := decide_eq_false c4
    clear c4
    obtain rfl := Option.some.inj H
    go_wp2
    repeat (go_quiet (fail); try go_wp2)
    go_ret
    exact ⟨by first | rfl | (simp; done) | (simp [*]; done), by repeat (first | exact Drawn0.refl _ | apply Drawn0.step)⟩
 rw [if_neg c3] at H
 have c3b0 : ((l0.length : Int) == (l1.length : Int)) = false := beq_eq_false_iff_ne.mpr c3
 have c3b1 : ((l0.length : Int) != (l1.length : Int)) = true := bne_iff_ne.mpr c3
 have c3b2 : (l0.length == l1.length) = false := by first | simpa using c3 | (simp at c3 ⊢; omega)
 obtain rfl := Option.some.inj H
 go_enter Try.func30, Try.ntmps30
 go_wp2
 repeat (go_quiet (fail); try go_wp2)
 go_ret
 exact ⟨by first | rfl | (simp; done) | (simp [*]; done), by repeat (first | exact Drawn0.refl _ | apply Drawn0.step)⟩
end Go.Proofs.Ytbhlmeghbfmgiaa.F

namespace Go.Proofs.Ytbhlmeghbfmgiaa.F
open Go.RowKit Go.Proofs.YtbhlmeghbfmgiaaW.PrintWords Go.Proofs.YtbhlmeghbfmgiaaW.PrintLast Go.Proofs.YtbhlmeghbfmgiaaW.PrintMore
attribute [local go_sem] max2_int min2_int max_two min_two max_three min_three max_four min_four
set_option linter.unusedVariables false
set_option linter.unusedSimpArgs false
mutual
def laws_FnPerformances.j3 : Nat → List Int → Option (Bool)
 | 0, _ => none
 | k + 1, x0 => (spec_DrawShiftAll.f k x0).bind fun bt979 => ((impl_ShiftAll.f k bt979.1 bt979.2).bind fun bt983 => (if bt983.2 = true then ((impl_GapsOf.f k bt983.1).bind fun t987 => ((impl_GapsOf.f k bt979.1).bind fun t990 => ((laws_sameInts.f k t987 t990).bind fun t993 => (if t993 = true then ((impl_PitchesOf.f k bt983.1).bind fun t994 => ((impl_PitchesOf.f k bt979.1).bind fun t997 => ((laws_sameInts.f k t994 t997).bind fun t1000 => (some t1000)))) else (some false))))) else (some true)))
def laws_FnPerformances.j0 : Nat → List Int → List (S26) → List (S49) → Bool → Option (Bool)
 | 0, _, _, _, _ => none
 | k + 1, x0, x3, x5, x50 => if x50 = true then (some false) else (laws_FnPerformances.l0 k x0 x3 x5 0 0 0)
def laws_FnPerformances.l0 : Nat → List Int → List (S26) → List (S49) → Int → Int → Int → Option (Bool)
 | 0, _, _, _, _, _, _ => none
 | k + 1, x0, x3, x5, x9, x10, x11 => if x11 < (x5.length : Int) then (if 0 ≤ x11 then (if x11 < (x3.length : Int) then (laws_FnPerformances.l0 k x0 x3 x5 (wrap64 (x9 + ((rd_T49 x5 x11).f1))) (wrap64 (x10 + ((rd_T26 x3 x11).f2))) (wrap64 (x11 + 1))) else (none)) else (none)) else ((impl_GapsOf.f k x5).bind fun t972 => (laws_FnPerformances.l1 k x0 x5 x9 x10 t972 0))
def laws_FnPerformances.l1 : Nat → List Int → List (S49) → Int → Int → List Int → Int → Option (Bool)
 | 0, _, _, _, _, _, _ => none
 | k + 1, x0, x5, x9, x10, x12, x13 => if x13 < (x12.length : Int) then (if 0 ≤ x13 then (if (rd x12 x13) < 0 then (some false) else (laws_FnPerformances.l1 k x0 x5 x9 x10 x12 (wrap64 (x13 + 1)))) else (none)) else (if x9 = x10 then ((impl_PitchesOf.f k x5).bind fun t976 => (if (t976.length : Int) = (x5.length : Int) then (laws_FnPerformances.j3 k x0) else (some false))) else (some false))
end
def laws_FnPerformances.f (k : Nat) (l0 : List Int) : Option (Bool) := (laws_big.f l0).bind fun t954 => (if t954 = true then (some true) else ((spec_DrawPlayScore.f k l0).bind fun bt955 => ((impl_PlayScore.f k bt955.1 bt955.2).bind fun bt961 => ((spec_PlayScore.f k bt955.1 bt955.2).bind fun bt965 => (if (bt961.2 != bt965.2) = true then (some false) else (if bt961.2 = true then ((impl_IsPerformance.f k bt961.1).bind fun t969 => (if t969 = true then (laws_FnPerformances.j0 k l0 bt955.1 bt961.1 ((bt961.1.length : Int) != (bt955.1.length : Int))) else (laws_FnPerformances.j0 k l0 bt955.1 bt961.1 true))) else (laws_FnPerformances.j3 k l0)))))))
set_option maxHeartbeats 8000000 in
set_option maxRecDepth 100000 in
theorem laws_FnPerformances.calls (k : Nat) (A0 : Option Addr) (c0 : Nat) (l0 : List Int) (r : Bool) (w : World) (hr0 : Kd.C (Kd.int .u8) w A0 l0.length l0) (hc0 : l0.length ≤ c0) (h : laws_FnPerformances.f k l0 = some r) :
  Calls Try.prog 4 #[.slice A0 l0.length c0] w fun e w' => e = .returned (.bool r) ∧ Below w.heap.size w w' := by
 have HR0 := sk_' hr0
 have HC0 := sk_' hc0
 clear hr0 hc0
 have HB := sk_' (Below.refl w.heap.size w)
 have H : ((laws_big.f l0).bind fun t954 => (if t954 = true then (some true) else ((spec_DrawPlayScore.f k l0).bind fun bt955 => ((impl_PlayScore.f k bt955.1 bt955.2).bind fun bt961 => ((spec_PlayScore.f k bt955.1 bt955.2).bind fun bt965 => (if (bt961.2 != bt965.2) = true then (some false) else (if bt961.2 = true then ((impl_IsPerformance.f k bt961.1).bind fun t969 => (if t969 = true then (laws_FnPerformances.j0 k l0 bt955.1 bt961.1 ((bt961.1.length : Int) != (bt955.1.length : Int))) else (laws_FnPerformances.j0 k l0 bt955.1 bt961.1 true))) else (laws_FnPerformances.j3 k l0)))))))) = some r := h
 clear h
 replace H := bs_' H
 obtain ⟨t954, A20, H⟩ := H
 try dsimp only at H
 have A2 := sk_' A20
 clear A20
 by_cases c3 : t954 = true
 ·
  subst c3
  rw [if_pos rfl] at H
  obtain rfl := Option.some.inj H
  go_enter Try.func4, Try.ntmps4
  go_wp2_with (first | ((with_reducible refine xj_' (f := 10) rfl ?_); refine goesL_ (some 19) rfl rfl Try.func10 (by kernel_rfl) rfl #[.slice A0 l0.length c0] rfl (by (try simp only [xm_', xc_', xn_']); first | done | rfl | (simp only [xd_', xt_']; rfl)) ?_; (with_reducible refine (laws_big.calls _ _ l0 true _ ?side1 ?side2 A2.out).mono ?_); (case side1 => repeat (first | exact HR0.out | (with_reducible refine xg_' ?_ _) | (with_reducible refine xe_' ?_ _) | (with_reducible refine xf_' ?_))); (case side2 => exact HC0.out); rintro e w' ⟨rfl, ⟨nd, rfl⟩⟩; refine ⟨_, rfl, ?_⟩))
  go_ret
  exact ⟨by first | rfl | (simp [errW_none, errW_some] <;> rfl) | (simp [*, errW_none, errW_some] <;> rfl), by repeat (first | (with_reducible first | exact HB.out | apply pa_' | apply pn_' | apply pd_') | exact HB.out)⟩
 replace c3 := Bool.eq_false_iff.mpr c3
 subst c3
 rw [if_neg (show ¬ (false = true) by decide)] at H
 replace H := bs_' H
 obtain ⟨⟨t955, t956⟩, A40, H⟩ := H
 try dsimp only at H
 have A4 := sk_' A40
 clear A40
 replace H := bs_' H
 obtain ⟨⟨t961, t962⟩, A50, H⟩ := H
 try dsimp only at H
 have A5 := sk_' A50
 clear A50
 replace H := bs_' H
 obtain ⟨⟨t965, t966⟩, A60, H⟩ := H
 try dsimp only at H
 have A6 := sk_' A60
 clear A60
 by_cases c7 : (t962 != t966) = true
 ·
  rw [if_pos c7] at H
  have c7b0 : (t962 != t966) = true := c7
  (try (have c7b1 : decide (t962 = t966) = false := by simpa using c7))
  (try (have c7b2 : (t962 == t966) = false := by simpa using c7))
  (try (have c7b3 : ¬ (t962 = t966) := by simpa using c7))
  clear c7
  obtain rfl := Option.some.inj H
  go_enter Try.func4, Try.ntmps4
  go_wp2_with (first | ((with_reducible refine xj_' (f := 10) rfl ?_); refine goesL_ (some 19) rfl rfl Try.func10 (by kernel_rfl) rfl #[.slice A0 l0.length c0] rfl (by (try simp only [xm_', xc_', xn_']); first | done | rfl | (simp only [xd_', xt_']; rfl)) ?_; (with_reducible refine (laws_big.calls _ _ l0 false _ ?side1 ?side2 A2.out).mono ?_); (case side1 => repeat (first | exact HR0.out | (with_reducible refine xg_' ?_ _) | (with_reducible refine xe_' ?_ _) | (with_reducible refine xf_' ?_))); (case side2 => exact HC0.out); rintro e w' ⟨rfl, ⟨nd, rfl⟩⟩; refine ⟨_, rfl, ?_⟩) | ((with_reducible refine xj_' (f := 22) rfl ?_); refine goesL_ (some 22) rfl rfl Try.func22 (by kernel_rfl) rfl #[.slice A0 l0.length c0] rfl (by (try simp only [xm_', xc_', xn_']); first | done | rfl | (simp only [xd_', xt_']; rfl)) ?_; (with_reducible refine (spec_DrawPlayScore.calls k _ _ l0 t955 t956 _ ?side1 ?side2 A4.out).mono ?_); (case side1 => repeat (first | exact HR0.out | (with_reducible refine xg_' ?_ _) | (with_reducible refine xe_' ?_ _) | (with_reducible refine xf_' ?_))); (case side2 => exact HC0.out); rintro e w8 ⟨v957, v959, rfl, ho0, ho1, hb⟩; refine ⟨_, rfl, ?_⟩; have n0_ := sk_' (Kd.R_lower ho0 (ps_' (by repeat (first | (with_reducible first | exact HB.out | apply pa_' | apply pn_' | apply pd_') | exact HB.out)))); have n1_ := sk_' (Kd.R_lower ho1 (ps_' (by repeat (first | (with_reducible first | exact HB.out | apply pa_' | apply pn_' | apply pd_') | exact HB.out)))); have n2_ := sk_' (pp_' (by repeat (first | (with_reducible first | exact HB.out | apply pa_' | apply pn_' | apply pd_') | exact HB.out)) hb); clear HB; have HO958 := n0_; have HO960 := n1_; have HB := n2_; clear n0_ n1_ n2_; (try clear hb); (try clear hb2); (try clear hk); (try clear hi); (try clear ho0); (try clear ho1); obtain ⟨Ao9, co9, eo9⟩ := Kd.R_slice HO958.out; subst eo9; obtain ⟨Ao10, co10, eo10⟩ := Kd.R_slice HO960.out; subst eo10) | ((with_reducible refine xj_' (f := 23) rfl ?_); refine goesL_ (some 28) rfl rfl Try.func23 (by kernel_rfl) rfl #[.slice Ao9 t955.length co9, .slice Ao10 t956.length co10] rfl (by (try simp only [xm_', xc_', xn_']); first | done | rfl | (simp only [xd_', xt_']; rfl)) ?_; (with_reducible refine (impl_PlayScore.calls k _ _ t955 _ _ t956 t961 t962 _ ?side1 ?side2 ?side3 ?side4 A5.out).mono ?_); (case side1 => repeat (first | exact (xr_' HO958.out).2.2 | (with_reducible refine xg_' ?_ _) | (with_reducible refine xe_' ?_ _) | (with_reducible refine xf_' ?_))); (case side2 => exact (xr_' HO958.out).2.1); (case side3 => repeat (first | exact (xr_' HO960.out).2.2 | (with_reducible refine xg_' ?_ _) | (with_reducible refine xe_' ?_ _) | (with_reducible refine xf_' ?_))); (case side4 => exact (xr_' HO960.out).2.1); rintro e w11 ⟨v963, rfl, ho0, hb⟩; refine ⟨_, rfl, ?_⟩; have n0_ := sk_' (xb_' (by (with_reducible repeat (first | apply ra_' | apply rn_' | apply rd1_')); exact HO958.out) hb); have n1_ := sk_' (xb_' (by (with_reducible repeat (first | apply ra_' | apply rn_' | apply rd1_')); exact HO960.out) hb); have n2_ := sk_' (Kd.R_lower ho0 (ps_' (by repeat (first | (with_reducible first | exact HB.out | apply pa_' | apply pn_' | apply pd_') | exact HB.out)))); have n3_ := sk_' (pp_' (by repeat (first | (with_reducible first | exact HB.out | apply pa_' | apply pn_' | apply pd_') | exact HB.out)) hb); clear HO958; clear HO960; clear HB; have HO958 := n0_; have HO960 := n1_; have HO964 := n2_; have HB := n3_; clear n0_ n1_ n2_ n3_; (try clear hb); (try clear hb2); (try clear hk); (try clear hi); (try clear ho0)) | ((with_reducible refine xj_' (f := 24) rfl ?_); refine goesL_ (some 34) rfl rfl Try.func24 (by kernel_rfl) rfl #[.slice Ao9 t955.length co9, .slice Ao10 t956.length co10] rfl (by (try simp only [xm_', xc_', xn_']); first | done | rfl | (simp only [xd_', xt_']; rfl)) ?_; (with_reducible refine (spec_PlayScore.calls k _ _ t955 _ _ t956 t965 t966 _ ?side1 ?side2 ?side3 ?side4 A6.out).mono ?_); (case side1 => repeat (first | exact (xr_' HO958.out).2.2 | (with_reducible refine xg_' ?_ _) | (with_reducible refine xe_' ?_ _) | (with_reducible refine xf_' ?_))); (case side2 => exact (xr_' HO958.out).2.1); (case side3 => repeat (first | exact (xr_' HO960.out).2.2 | (with_reducible refine xg_' ?_ _) | (with_reducible refine xe_' ?_ _) | (with_reducible refine xf_' ?_))); (case side4 => exact (xr_' HO960.out).2.1); rintro e w12 ⟨v967, rfl, ho0, hb⟩; refine ⟨_, rfl, ?_⟩; have n0_ := sk_' (xb_' (by (with_reducible repeat (first | apply ra_' | apply rn_' | apply rd1_')); exact HO958.out) hb); have n1_ := sk_' (xb_' (by (with_reducible repeat (first | apply ra_' | apply rn_' | apply rd1_')); exact HO960.out) hb); have n2_ := sk_' (Kd.R_elder' (by (with_reducible repeat (first | apply ra_' | apply rn_' | apply rd1_')); exact HO964.out) (Kd.R_base ho0) hb); have n3_ := sk_' (Kd.R_lower (Kd.R_new' ho0 (Kd.R_lt (by (with_reducible repeat (first | apply ra_' | apply rn_' | apply rd1_')); exact HO964.out))) (ps_' (by repeat (first | (with_reducible first | exact HB.out | apply pa_' | apply pn_' | apply pd_') | exact HB.out)))); have n4_ := sk_' (pp_' (by repeat (first | (with_reducible first | exact HB.out | apply pa_' | apply pn_' | apply pd_') | exact HB.out)) hb); clear HO958; clear HO960; clear HO964; clear HB; have HO958 := n0_; have HO960 := n1_; have HO964 := n2_; have HO968 := n3_; have HB := n4_; clear n0_ n1_ n2_ n3_ n4_; (try clear hb); (try clear hb2); (try clear hk); (try clear hi); (try clear ho0)))
  go_ret
  exact ⟨by first | rfl | (simp [errW_none, errW_some] <;> rfl) | (simp [*, errW_none, errW_some] <;> rfl), by repeat (first | (with_reducible first | exact HB.out | apply pa_' | apply pn_' | apply pd_') | exact HB.out)⟩
 rw [if_neg c7] at H
 have c7b0 : (t962 != t966) = false := by simpa using c7
 (try (have c7b1 : decide (t962 = t966) = true := by simpa using c7))
 (try (have c7b2 : (t962 == t966) = true := by simpa using c7))
 clear c7
 have HC13 := sk_' H
 clear H
 go_enter Try.func4, Try.ntmps4
 go_upto_if 40 with (first | ((with_reducible refine xj_' (f := 10) rfl ?_); refine goesL_ (some 19) rfl rfl Try.func10 (by kernel_rfl) rfl #[.slice A0 l0.length c0] rfl (by (try simp only [xm_', xc_', xn_']); first | done | rfl | (simp only [xd_', xt_']; rfl)) ?_; (with_reducible refine (laws_big.calls _ _ l0 false _ ?side1 ?side2 A2.out).mono ?_); (case side1 => repeat (first | exact HR0.out | (with_reducible refine xg_' ?_ _) | (with_reducible refine xe_' ?_ _) | (with_reducible refine xf_' ?_))); (case side2 => exact HC0.out); rintro e w' ⟨rfl, ⟨nd, rfl⟩⟩; refine ⟨_, rfl, ?_⟩) | ((with_reducible refine xj_' (f := 22) rfl ?_); refine goesL_ (some 22) rfl rfl Try.func22 (by kernel_rfl) rfl #[.slice A0 l0.length c0] rfl (by (try simp only [xm_', xc_', xn_']); first | done | rfl | (simp only [xd_', xt_']; rfl)) ?_; (with_reducible refine (spec_DrawPlayScore.calls k _ _ l0 t955 t956 _ ?side1 ?side2 A4.out).mono ?_); (case side1 => repeat (first | exact HR0.out | (with_reducible refine xg_' ?_ _) | (with_reducible refine xe_' ?_ _) | (with_reducible refine xf_' ?_))); (case side2 => exact HC0.out); rintro e w14 ⟨v957, v959, rfl, ho0, ho1, hb⟩; refine ⟨_, rfl, ?_⟩; have n0_ := sk_' (Kd.R_lower ho0 (ps_' (by repeat (first | (with_reducible first | exact HB.out | apply pa_' | apply pn_' | apply pd_') | exact HB.out)))); have n1_ := sk_' (Kd.R_lower ho1 (ps_' (by repeat (first | (with_reducible first | exact HB.out | apply pa_' | apply pn_' | apply pd_') | exact HB.out)))); have n2_ := sk_' (pp_' (by repeat (first | (with_reducible first | exact HB.out | apply pa_' | apply pn_' | apply pd_') | exact HB.out)) hb); clear HB; have HO958 := n0_; have HO960 := n1_; have HB := n2_; clear n0_ n1_ n2_; (try clear hb); (try clear hb2); (try clear hk); (try clear hi); (try clear ho0); (try clear ho1); obtain ⟨Ao15, co15, eo15⟩ := Kd.R_slice HO958.out; subst eo15; obtain ⟨Ao16, co16, eo16⟩ := Kd.R_slice HO960.out; subst eo16) | ((with_reducible refine xj_' (f := 23) rfl ?_); refine goesL_ (some 28) rfl rfl Try.func23 (by kernel_rfl) rfl #[.slice Ao15 t955.length co15, .slice Ao16 t956.length co16] rfl (by (try simp only [xm_', xc_', xn_']); first | done | rfl | (simp only [xd_', xt_']; rfl)) ?_; (with_reducible refine (impl_PlayScore.calls k _ _ t955 _ _ t956 t961 t962 _ ?side1 ?side2 ?side3 ?side4 A5.out).mono ?_); (case side1 => repeat (first | exact (xr_' HO958.out).2.2 | (with_reducible refine xg_' ?_ _) | (with_reducible refine xe_' ?_ _) | (with_reducible refine xf_' ?_))); (case side2 => exact (xr_' HO958.out).2.1); (case side3 => repeat (first | exact (xr_' HO960.out).2.2 | (with_reducible refine xg_' ?_ _) | (with_reducible refine xe_' ?_ _) | (with_reducible refine xf_' ?_))); (case side4 => exact (xr_' HO960.out).2.1); rintro e w17 ⟨v963, rfl, ho0, hb⟩; refine ⟨_, rfl, ?_⟩; have n0_ := sk_' (xb_' (by (with_reducible repeat (first | apply ra_' | apply rn_' | apply rd1_')); exact HO958.out) hb); have n1_ := sk_' (xb_' (by (with_reducible repeat (first | apply ra_' | apply rn_' | apply rd1_')); exact HO960.out) hb); have n2_ := sk_' (Kd.R_lower ho0 (ps_' (by repeat (first | (with_reducible first | exact HB.out | apply pa_' | apply pn_' | apply pd_') | exact HB.out)))); have n3_ := sk_' (pp_' (by repeat (first | (with_reducible first | exact HB.out | apply pa_' | apply pn_' | apply pd_') | exact HB.out)) hb); clear HO958; clear HO960; clear HB; have HO958 := n0_; have HO960 := n1_; have HO964 := n2_; have HB := n3_; clear n0_ n1_ n2_ n3_; (try clear hb); (try clear hb2); (try clear hk); (try clear hi); (try clear ho0)) | ((with_reducible refine xj_' (f := 24) rfl ?_); refine goesL_ (some 34) rfl rfl Try.func24 (by kernel_rfl) rfl #[.slice Ao15 t955.length co15, .slice Ao16 t956.length co16] rfl (by (try simp only [xm_', xc_', xn_']); first | done | rfl | (simp only [xd_', xt_']; rfl)) ?_; (with_reducible refine (spec_PlayScore.calls k _ _ t955 _ _ t956 t965 t966 _ ?side1 ?side2 ?side3 ?side4 A6.out).mono ?_); (case side1 => repeat (first | exact (xr_' HO958.out).2.2 | (with_reducible refine xg_' ?_ _) | (with_reducible refine xe_' ?_ _) | (with_reducible refine xf_' ?_))); (case side2 => exact (xr_' HO958.out).2.1); (case side3 => repeat (first | exact (xr_' HO960.out).2.2 | (with_reducible refine xg_' ?_ _) | (with_reducible refine xe_' ?_ _) | (with_reducible refine xf_' ?_))); (case side4 => exact (xr_' HO960.out).2.1); rintro e w18 ⟨v967, rfl, ho0, hb⟩; refine ⟨_, rfl, ?_⟩; have n0_ := sk_' (xb_' (by (with_reducible repeat (first | apply ra_' | apply rn_' | apply rd1_')); exact HO958.out) hb); have n1_ := sk_' (xb_' (by (with_reducible repeat (first | apply ra_' | apply rn_' | apply rd1_')); exact HO960.out) hb); have n2_ := sk_' (Kd.R_elder' (by (with_reducible repeat (first | apply ra_' | apply rn_' | apply rd1_')); exact HO964.out) (Kd.R_base ho0) hb); have n3_ := sk_' (Kd.R_lower (Kd.R_new' ho0 (Kd.R_lt (by (with_reducible repeat (first | apply ra_' | apply rn_' | apply rd1_')); exact HO964.out))) (ps_' (by repeat (first | (with_reducible first | exact HB.out | apply pa_' | apply pn_' | apply pd_') | exact HB.out)))); have n4_ := sk_' (pp_' (by repeat (first | (with_reducible first | exact HB.out | apply pa_' | apply pn_' | apply pd_') | exact HB.out)) hb); clear HO958; clear HO960; clear HO964; clear HB; have HO958 := n0_; have HO960 := n1_; have HO964 := n2_; have HO968 := n3_; have HB := n4_; clear n0_ n1_ n2_ n3_ n4_; (try clear hb); (try clear hb2); (try clear hk); (try clear hi); (try clear ho0)))
 (try simp only [Act.put, sa_', sz_', sc_'])
 go_cut [] (fun wc => ∃ (kq : Nat), Aside0 (laws_FnPerformances.j3 kq l0 = some r) ∧ Aside0 (kq ≤ k) ∧ Aside0 (Below w.heap.size w wc))
 case first =>
  have H := HC13.out
  clear HC13
  by_cases c19 : t962 = true
  ·
   subst c19
   rw [if_pos rfl] at H
   have HC20 := sk_' H
   clear H
   go_upto_region 9 with (fail)
   go_cut [50] (fun v50 wc => ∃ (kq : Nat) (x50_19 : Bool), v50 = .bool x50_19 ∧ Aside0 (laws_FnPerformances.j0 kq l0 t955 t961 x50_19 = some r) ∧ Aside0 (kq ≤ k) ∧ Aside0 (Kd.R k26 26 wc w.heap.size (fun _ => True) (.slice Ao15 t955.length co15) t955) ∧ Aside0 (Kd.R k49 49 wc w.heap.size (fun _ => True) v963 t961) ∧ Aside0 (Below w.heap.size w wc))
   case first =>
    have H := HC20.out
    clear HC20
    replace H := bs_' H
    obtain ⟨t969, A210, H⟩ := H
    try dsimp only at H
    have A21 := sk_' A210
    clear A210
    by_cases c22 : t969 = true
    ·
     subst c22
     rw [if_pos rfl] at H
     have H' := sk_' H
     clear H
     obtain ⟨Ao23, co23, eo23⟩ := Kd.R_slice HO964.out
     subst eo23
     go_wp2_with (first | ((with_reducible refine xj_' (f := 25) rfl ?_); refine goesL_ (some 42) rfl rfl Try.func25 (by kernel_rfl) rfl #[.slice Ao23 t961.length co23] rfl (by (try simp only [xm_', xc_', xn_']); first | done | rfl | (simp only [xd_', xt_']; rfl)) ?_; (with_reducible refine (impl_IsPerformance.calls k _ _ t961 true _ ?side1 ?side2 A21.out).mono ?_); (case side1 => repeat (first | exact (xr_' HO964.out).2.2 | (with_reducible refine xg_' ?_ _) | (with_reducible refine xe_' ?_ _) | (with_reducible refine xf_' ?_))); (case side2 => exact (xr_' HO964.out).2.1); rintro e w24 ⟨rfl, hb⟩; refine ⟨_, rfl, ?_⟩; have n0_ := sk_' (xb_' (by (with_reducible repeat (first | apply ra_' | apply rn_' | apply rd1_')); exact HO958.out) hb); have n1_ := sk_' (xb_' (by (with_reducible repeat (first | apply ra_' | apply rn_' | apply rd1_')); exact HO960.out) hb); have n2_ := sk_' (xb_' (by (with_reducible repeat (first | apply ra_' | apply rn_' | apply rd1_')); exact HO964.out) hb); have n3_ := sk_' (xb_' (by (with_reducible repeat (first | apply ra_' | apply rn_' | apply rd1_')); exact HO968.out) hb); have n4_ := sk_' (pp_' (by repeat (first | (with_reducible first | exact HB.out | apply pa_' | apply pn_' | apply pd_') | exact HB.out)) hb); clear HO958; clear HO960; clear HO964; clear HO968; clear HB; have HO958 := n0_; have HO960 := n1_; have HO964 := n2_; have HO968 := n3_; have HB := n4_; clear n0_ n1_ n2_ n3_ n4_; (try clear hb); (try clear hb2); (try clear hk); (try clear hi)))
     go_meet
     case rel => exact ⟨_, (((t961.length : Int) != (t955.length : Int))), (by first | rfl | (simp; done) | (simp [*]; done)), H', ⟨by first | omega | exact Nat.le_refl _⟩, ⟨by (with_reducible repeat (first | apply ra_' | apply rn_' | apply rd1_')); exact HO958.out⟩, ⟨by (with_reducible repeat (first | apply ra_' | apply rn_' | apply rd1_')); exact xi_' HO964.out (fun _ hk => trivial)⟩, ⟨by repeat (first | (with_reducible first | exact HB.out | apply pa_' | apply pn_' | apply pd_') | exact HB.out)⟩⟩
    replace c22 := Bool.eq_false_iff.mpr c22
    subst c22
    rw [if_neg (show ¬ (false = true) by decide)] at H
    have H' := sk_' H
    clear H
    obtain ⟨Ao25, co25, eo25⟩ := Kd.R_slice HO964.out
    subst eo25
    go_wp2_with (first | ((with_reducible refine xj_' (f := 25) rfl ?_); refine goesL_ (some 42) rfl rfl Try.func25 (by kernel_rfl) rfl #[.slice Ao25 t961.length co25] rfl (by (try simp only [xm_', xc_', xn_']); first | done | rfl | (simp only [xd_', xt_']; rfl)) ?_; (with_reducible refine (impl_IsPerformance.calls k _ _ t961 false _ ?side1 ?side2 A21.out).mono ?_); (case side1 => repeat (first | exact (xr_' HO964.out).2.2 | (with_reducible refine xg_' ?_ _) | (with_reducible refine xe_' ?_ _) | (with_reducible refine xf_' ?_))); (case side2 => exact (xr_' HO964.out).2.1); rintro e w26 ⟨rfl, hb⟩; refine ⟨_, rfl, ?_⟩; have n0_ := sk_' (xb_' (by (with_reducible repeat (first | apply ra_' | apply rn_' | apply rd1_')); exact HO958.out) hb); have n1_ := sk_' (xb_' (by (with_reducible repeat (first | apply ra_' | apply rn_' | apply rd1_')); exact HO960.out) hb); have n2_ := sk_' (xb_' (by (with_reducible repeat (first | apply ra_' | apply rn_' | apply rd1_')); exact HO964.out) hb); have n3_ := sk_' (xb_' (by (with_reducible repeat (first | apply ra_' | apply rn_' | apply rd1_')); exact HO968.out) hb); have n4_ := sk_' (pp_' (by repeat (first | (with_reducible first | exact HB.out | apply pa_' | apply pn_' | apply pd_') | exact HB.out)) hb); clear HO958; clear HO960; clear HO964; clear HO968; clear HB; have HO958 := n0_; have HO960 := n1_; have HO964 := n2_; have HO968 := n3_; have HB := n4_; clear n0_ n1_ n2_ n3_ n4_; (try clear hb); (try clear hb2); (try clear hk); (try clear hi)))
    go_meet
    case rel => exact ⟨_, (true), (by first | rfl | (simp; done) | (simp [*]; done)), H', ⟨by first | omega | exact Nat.le_refl _⟩, ⟨by (with_reducible repeat (first | apply ra_' | apply rn_' | apply rd1_')); exact HO958.out⟩, ⟨by (with_reducible repeat (first | apply ra_' | apply rn_' | apply rd1_')); exact xi_' HO964.out (fun _ hk => trivial)⟩, ⟨by repeat (first | (with_reducible first | exact HB.out | apply pa_' | apply pn_' | apply pd_') | exact HB.out)⟩⟩
   case rest =>
    clear HC20
    try clear c1
    try clear c2
    try clear p2
    try clear c3
    try clear c4
    try clear c7
    try clear c7b0
    try clear c7b1
    try clear c7b2
    try clear c10
    try clear c19
    try clear c22
    try clear c23
    try clear c24
    try clear c25
    obtain ⟨kq, x50_19, rfl, HA, HJ19, HO_3, HO_5, HB⟩ := hcut
    cases kq with
    | zero => exact absurd HA.out (by simp [laws_FnPerformances.j0])
    | succ kj19 =>
     have H := HA.out
     clear HA
     simp only [laws_FnPerformances.j0] at H
     by_cases c27 : x50_19 = true
     ·
      subst c27
      rw [if_pos rfl] at H
      obtain rfl := Option.some.inj H
      go_wp2
      go_ret
      exact ⟨by first | rfl | (simp [errW_none, errW_some] <;> rfl) | (simp [*, errW_none, errW_some] <;> rfl), by repeat (first | (with_reducible first | exact HB.out | apply pa_' | apply pn_' | apply pd_') | exact HB.out)⟩
     replace c27 := Bool.eq_false_iff.mpr c27
     subst c27
     rw [if_neg (show ¬ (false = true) by decide)] at H
     have H' := sk_' H
     clear H
     go_wp2
     go_loopg [9, 10, 11] kj19 (fun kq v9 v10 v11 w' => ∃ (x9_2 : Int) (x10_2 : Int) (x11_2 : Int), v9 = .int .i64 x9_2 ∧ v10 = .int .i64 x10_2 ∧ v11 = .int .i64 x11_2 ∧ Aside0 (laws_FnPerformances.l0 kq l0 t955 t961 x9_2 x10_2 x11_2 = some r) ∧ Aside0 (kq ≤ kj19) ∧ Aside0 (Kd.R k26 26 w' w.heap.size (fun _ => True) (.slice Ao15 t955.length co15) t955) ∧ Aside0 (Kd.R k49 49 w' w.heap.size (fun _ => True) v963 t961) ∧ Aside0 (Below w.heap.size w w'))
     case atStart => exact ⟨(0), (0), (0), (by first | rfl | (simp; done) | (simp [*]; done)), (by first | rfl | (simp; done) | (simp [*]; done)), (by first | rfl | (simp; done) | (simp [*]; done)), H', ⟨Nat.le_refl _⟩, ⟨by (with_reducible repeat (first | apply ra_' | apply rn_' | apply rd1_')); exact HO_3.out⟩, ⟨by (with_reducible repeat (first | apply ra_' | apply rn_' | apply rd1_')); exact HO_5.out⟩, ⟨by repeat (first | (with_reducible first | exact HB.out | apply pa_' | apply pn_' | apply pd_') | exact HB.out)⟩⟩
     case round =>
      clear H'
      try clear c1
      try clear c2
      try clear p2
      try clear c3
      try clear c4
      try clear c7
      try clear c7b0
      try clear c7b1
      try clear c7b2
      try clear c10
      try clear c19
      try clear c22
      try clear c23
      try clear c24
      try clear c25
      try clear c27
      try clear p2
      obtain ⟨x9_2, x10_2, x11_2, rfl, rfl, rfl, HA, HK2, HO_3, HO_5, HB⟩ := hrel
      cases gk with
      | zero => exact absurd HA.out (by simp [laws_FnPerformances.l0])
      | succ k2 =>
       have H := HA.out
       clear HA
       simp only [laws_FnPerformances.l0] at H
       by_cases c28 : x11_2 < (t961.length : Int)
       ·
        rw [if_pos c28] at H
        have c28b0 : decide (x11_2 < (t961.length : Int)) = true := decide_eq_true c28
        clear c28
        by_cases c29 : 0 ≤ x11_2
        ·
         rw [if_pos c29] at H
         have c29b0 : decide (0 ≤ x11_2) = true := decide_eq_true c29
         clear c29
         by_cases c30 : x11_2 < (t955.length : Int)
         ·
          rw [if_pos c30] at H
          have c30b0 : decide (x11_2 < (t955.length : Int)) = true := decide_eq_true c30
          clear c30
          have H' := sk_' H
          clear H
          obtain ⟨Ao31, co31, eo31⟩ := Kd.R_slice HO_5.out
          subst eo31
          have p970 : 0 ≤ (x11_2 : Int) := od_' (by first | (with_reducible assumption) | assumption)
          have q970 : x11_2 < (t961.length : Int) := od_' (by first | (with_reducible assumption) | assumption)
          obtain ⟨ad970, e970, hx970_0, hx970_1⟩ := at_T49 (xr_' HO_5.out).2.2 x11_2 p970 q970
          cases e970
          replace p970 := eq_true p970
          replace q970 := eq_true q970
          have p971 : 0 ≤ (x11_2 : Int) := od_' (by first | (with_reducible assumption) | assumption)
          have q971 : x11_2 < (t955.length : Int) := od_' (by first | (with_reducible assumption) | assumption)
          obtain ⟨ad971, e971, hx971_0, hx971_1, hx971_2, hx971_3⟩ := at_T26 (xr_' HO_3.out).2.2 x11_2 p971 q971
          cases e971
          replace p971 := eq_true p971
          replace q971 := eq_true q971
          go_wp2
          go_roundg k2
          case measure => have := HJ19.out; have := HK2.out; omega
          case rel => exact ⟨(wrap64 (x9_2 + ((rd_T49 t961 x11_2).f1))), (wrap64 (x10_2 + ((rd_T26 t955 x11_2).f2))), (wrap64 (x11_2 + 1)), (by first | rfl | (simp; done) | (simp [*]; done)), (by first | rfl | (simp; done) | (simp [*]; done)), (by first | rfl | (simp; done) | (simp [*]; done)), H', ⟨by have := HJ19.out; have := HK2.out; omega⟩, ⟨by (with_reducible repeat (first | apply ra_' | apply rn_' | apply rd1_')); exact HO_3.out⟩, ⟨by (with_reducible repeat (first | apply ra_' | apply rn_' | apply rd1_')); exact HO_5.out⟩, ⟨by repeat (first | (with_reducible first | exact HB.out | apply pa_' | apply pn_' | apply pd_') | exact HB.out)⟩⟩
         rw [if_neg c30] at H
         exact absurd H (by simp)
        rw [if_neg c29] at H
        exact absurd H (by simp)
       rw [if_neg c28] at H
       have c28b0 : decide (x11_2 < (t961.length : Int)) = false := decide_eq_false c28
       clear c28
       replace H := bs_' H
       obtain ⟨t972, A320, H⟩ := H
       try dsimp only at H
       have A32 := sk_' A320
       clear A320
       have H' := sk_' H
       clear H
       obtain ⟨Ao33, co33, eo33⟩ := Kd.R_slice HO_5.out
       subst eo33
       go_wp2_with (first | ((with_reducible refine xj_' (f := 26) rfl ?_); refine goesL_ (some 72) rfl rfl Try.func26 (by kernel_rfl) rfl #[.slice Ao33 t961.length co33] rfl (by (try simp only [xm_', xc_', xn_']); first | done | rfl | (simp only [xd_', xt_']; rfl)) ?_; (with_reducible refine (impl_GapsOf.calls k2 _ _ t961 t972 _ ?side1 ?side2 A32.out).mono ?_); (case side1 => repeat (first | exact (xr_' HO_5.out).2.2 | (with_reducible refine xg_' ?_ _) | (with_reducible refine xe_' ?_ _) | (with_reducible refine xf_' ?_))); (case side2 => exact (xr_' HO_5.out).2.1); rintro e w34 ⟨v973, rfl, ho0, hb⟩; refine ⟨_, rfl, ?_⟩; have n0_ := sk_' (xb_' (by (with_reducible repeat (first | apply ra_' | apply rn_' | apply rd1_')); exact HO_3.out) hb); have n1_ := sk_' (xb_' (by (with_reducible repeat (first | apply ra_' | apply rn_' | apply rd1_')); exact HO_5.out) hb); have n2_ := sk_' (Kd.R_lower ho0 (ps_' (by repeat (first | (with_reducible first | exact HB.out | apply pa_' | apply pn_' | apply pd_') | exact HB.out)))); have n3_ := sk_' (pp_' (by repeat (first | (with_reducible first | exact HB.out | apply pa_' | apply pn_' | apply pd_') | exact HB.out)) hb); clear HO_3; clear HO_5; clear HB; have HO_3 := n0_; have HO_5 := n1_; have HO974 := n2_; have HB := n3_; clear n0_ n1_ n2_ n3_; (try clear hb); (try clear hb2); (try clear hk); (try clear hi); (try clear ho0)))
       go_loopg [13] k2 (fun kq v13 w' => ∃ (x13_3 : Int), v13 = .int .i64 x13_3 ∧ Aside0 (laws_FnPerformances.l1 kq l0 t961 x9_2 x10_2 t972 x13_3 = some r) ∧ Aside0 (kq ≤ k2) ∧ Aside0 (Kd.R k49 49 w' w.heap.size (fun _ => True) (.slice Ao33 t961.length co33) t961) ∧ Aside0 (Kd.R (Kd.int .i64) 3 w' w.heap.size (fun _ => True) v973 t972) ∧ Aside0 (Below w.heap.size w w'))
       case atStart => exact ⟨(0), (by first | rfl | (simp; done) | (simp [*]; done)), H', ⟨Nat.le_refl _⟩, ⟨by (with_reducible repeat (first | apply ra_' | apply rn_' | apply rd1_')); exact HO_5.out⟩, ⟨by (with_reducible repeat (first | apply ra_' | apply rn_' | apply rd1_')); exact HO974.out⟩, ⟨by repeat (first | (with_reducible first | exact HB.out | apply pa_' | apply pn_' | apply pd_') | exact HB.out)⟩⟩
       case round =>
        clear H'
        try clear c1
        try clear c2
        try clear p2
        try clear c3
        try clear c4
        try clear p6
        try clear c7
        try clear c7b0
        try clear c7b1
        try clear c7b2
        try clear p9
        try clear q9
        try clear hx9
        try clear c10
        try clear c19
        try clear c22
        try clear c23
        try clear c24
        try clear c25
        try clear c26
        try clear c27
        try clear c28
        try clear c28b0
        try clear c29
        try clear c29b0
        try clear c30
        try clear c30b0
        try clear hx970_0
        try clear hx970_1
        try clear hx971_0
        try clear hx971_1
        try clear hx971_2
        try clear hx971_3
        try clear p2
        try clear p970
        try clear p971
        try clear q970
        try clear q971
        obtain ⟨x13_3, rfl, HA, HK3, HO_5, HO_12, HB⟩ := hrel
        cases gk with
        | zero => exact absurd HA.out (by simp [laws_FnPerformances.l1])
        | succ k3 =>
         have H := HA.out
         clear HA
         simp only [laws_FnPerformances.l1] at H
         by_cases c35 : x13_3 < (t972.length : Int)
         ·
          rw [if_pos c35] at H
          have c35b0 : decide (x13_3 < (t972.length : Int)) = true := decide_eq_true c35
          clear c35
          by_cases c36 : 0 ≤ x13_3
          ·
           rw [if_pos c36] at H
           have c36b0 : decide (0 ≤ x13_3) = true := decide_eq_true c36
           clear c36
           by_cases c37 : (rd t972 x13_3) < 0
           ·
            rw [if_pos c37] at H
            have c37b0 : decide ((rd t972 x13_3) < 0) = true := decide_eq_true c37
            clear c37
            obtain rfl := Option.some.inj H
            obtain ⟨Ao38, co38, eo38⟩ := Kd.R_slice HO_12.out
            subst eo38
            have p975 : 0 ≤ (x13_3 : Int) := od_' (by first | (with_reducible assumption) | assumption)
            have q975 : x13_3 < (t972.length : Int) := od_' (by first | (with_reducible assumption) | assumption)
            obtain ⟨ad975, e975, hx975_0⟩ := Kd.at_int (xr_' HO_12.out).2.2 x13_3 p975 q975
            cases e975
            replace p975 := eq_true p975
            replace q975 := eq_true q975
            go_wp2
            go_ret
            exact ⟨by first | rfl | (simp [errW_none, errW_some] <;> rfl) | (simp [*, errW_none, errW_some] <;> rfl), by repeat (first | (with_reducible first | exact HB.out | apply pa_' | apply pn_' | apply pd_') | exact HB.out)⟩
           rw [if_neg c37] at H
           have c37b0 : decide ((rd t972 x13_3) < 0) = false := decide_eq_false c37
           clear c37
           have H' := sk_' H
           clear H
           obtain ⟨Ao39, co39, eo39⟩ := Kd.R_slice HO_12.out
           subst eo39
           have p975 : 0 ≤ (x13_3 : Int) := od_' (by first | (with_reducible assumption) | assumption)
           have q975 : x13_3 < (t972.length : Int) := od_' (by first | (with_reducible assumption) | assumption)
           obtain ⟨ad975, e975, hx975_0⟩ := Kd.at_int (xr_' HO_12.out).2.2 x13_3 p975 q975
           cases e975
           replace p975 := eq_true p975
           replace q975 := eq_true q975
           go_wp2
           go_roundg k3
           case measure => have := HJ19.out; have := HK2.out; have := HK3.out; omega
           case rel => exact ⟨(wrap64 (x13_3 + 1)), (by first | rfl | (simp; done) | (simp [*]; done)), H', ⟨by have := HJ19.out; have := HK2.out; have := HK3.out; omega⟩, ⟨by (with_reducible repeat (first | apply ra_' | apply rn_' | apply rd1_')); exact HO_5.out⟩, ⟨by (with_reducible repeat (first | apply ra_' | apply rn_' | apply rd1_')); exact HO_12.out⟩, ⟨by repeat (first | (with_reducible first | exact HB.out | apply pa_' | apply pn_' | apply pd_') | exact HB.out)⟩⟩
          rw [if_neg c36] at H
          exact absurd H (by simp)
         rw [if_neg c35] at H
         have c35b0 : decide (x13_3 < (t972.length : Int)) = false := decide_eq_false c35
         clear c35
         by_cases c40 : x9_2 = x10_2
         ·
          rw [if_pos c40] at H
          have c40b0 : (x9_2 == x10_2) = true := beq_iff_eq.mpr c40
          have c40b1 : (x9_2 != x10_2) = false := bne_eq_false_iff_eq.mpr c40
          clear c40
          replace H := bs_' H
          obtain ⟨t976, A410, H⟩ := H
          try dsimp only at H
          have A41 := sk_' A410
          clear A410
          by_cases c42 : (t976.length : Int) = (t961.length : Int)
          ·
           rw [if_pos c42] at H
           have c42b0 : ((t976.length : Int) == (t961.length : Int)) = true := beq_iff_eq.mpr c42
           have c42b1 : ((t976.length : Int) != (t961.length : Int)) = false := bne_eq_false_iff_eq.mpr c42
           have c42b2 : (t976.length == t961.length) = true := by first | simpa using c42 | (simp at c42 ⊢; omega)
           clear c42
           have H' := sk_' H
           clear H
           obtain ⟨Ao43, co43, eo43⟩ := Kd.R_slice HO_12.out
           subst eo43
           go_wp2_with (first | (go_at_call 27; (with_reducible refine (impl_PitchesOf.calls k3 _ _ t961 t976 _ ?side1 ?side2 A41.out).mono ?_); (case side1 => repeat (first | exact (xr_' HO_5.out).2.2 | (with_reducible refine xg_' ?_ _) | (with_reducible refine xe_' ?_ _) | (with_reducible refine xf_' ?_))); (case side2 => exact (xr_' HO_5.out).2.1); rintro e w44 ⟨v977, rfl, ho0, hb⟩; have n0_ := sk_' (xb_' (by (with_reducible repeat (first | apply ra_' | apply rn_' | apply rd1_')); exact HO_5.out) hb); have n1_ := sk_' (Kd.R_elder' (by (with_reducible repeat (first | apply ra_' | apply rn_' | apply rd1_')); exact HO_12.out) (Kd.R_base ho0) hb); have n2_ := sk_' (Kd.R_lower (Kd.R_new' ho0 (Kd.R_lt (by (with_reducible repeat (first | apply ra_' | apply rn_' | apply rd1_')); exact HO_12.out))) (ps_' (by repeat (first | (with_reducible first | exact HB.out | apply pa_' | apply pn_' | apply pd_') | exact HB.out)))); have n3_ := sk_' (pp_' (by repeat (first | (with_reducible first | exact HB.out | apply pa_' | apply pn_' | apply pd_') | exact HB.out)) hb); clear HO_5; clear HO_12; clear HB; have HO_5 := n0_; have HO_12 := n1_; have HO978 := n2_; have HB := n3_; clear n0_ n1_ n2_ n3_; (try clear hb); (try clear hb2); (try clear hk); (try clear hi); (try clear ho0); obtain ⟨Ao45, co45, eo45⟩ := Kd.R_slice HO978.out; subst eo45))
           go_meet
           case rel => exact ⟨_, H', ⟨by have := HJ19.out; have := HK2.out; have := HK3.out; first | omega | exact Nat.le_refl _⟩, ⟨by repeat (first | (with_reducible first | exact HB.out | apply pa_' | apply pn_' | apply pd_') | exact HB.out)⟩⟩
          rw [if_neg c42] at H
          have c42b0 : ((t976.length : Int) == (t961.length : Int)) = false := beq_eq_false_iff_ne.mpr c42
          have c42b1 : ((t976.length : Int) != (t961.length : Int)) = true := bne_iff_ne.mpr c42
          have c42b2 : (t976.length == t961.length) = false := by first | simpa using c42 | (simp at c42 ⊢; omega)
          obtain rfl := Option.some.inj H
          obtain ⟨Ao46, co46, eo46⟩ := Kd.R_slice HO_12.out
          subst eo46
          go_wp2_with (first | (go_at_call 27; (with_reducible refine (impl_PitchesOf.calls k3 _ _ t961 t976 _ ?side1 ?side2 A41.out).mono ?_); (case side1 => repeat (first | exact (xr_' HO_5.out).2.2 | (with_reducible refine xg_' ?_ _) | (with_reducible refine xe_' ?_ _) | (with_reducible refine xf_' ?_))); (case side2 => exact (xr_' HO_5.out).2.1); rintro e w47 ⟨v977, rfl, ho0, hb⟩; have n0_ := sk_' (xb_' (by (with_reducible repeat (first | apply ra_' | apply rn_' | apply rd1_')); exact HO_5.out) hb); have n1_ := sk_' (Kd.R_elder' (by (with_reducible repeat (first | apply ra_' | apply rn_' | apply rd1_')); exact HO_12.out) (Kd.R_base ho0) hb); have n2_ := sk_' (Kd.R_lower (Kd.R_new' ho0 (Kd.R_lt (by (with_reducible repeat (first | apply ra_' | apply rn_' | apply rd1_')); exact HO_12.out))) (ps_' (by repeat (first | (with_reducible first | exact HB.out | apply pa_' | apply pn_' | apply pd_') | exact HB.out)))); have n3_ := sk_' (pp_' (by repeat (first | (with_reducible first | exact HB.out | apply pa_' | apply pn_' | apply pd_') | exact HB.out)) hb); clear HO_5; clear HO_12; clear HB; have HO_5 := n0_; have HO_12 := n1_; have HO978 := n2_; have HB := n3_; clear n0_ n1_ n2_ n3_; (try clear hb); (try clear hb2); (try clear hk); (try clear hi); (try clear ho0); obtain ⟨Ao48, co48, eo48⟩ := Kd.R_slice HO978.out; subst eo48))
          go_ret
          exact ⟨by first | rfl | (simp [errW_none, errW_some] <;> rfl) | (simp [*, errW_none, errW_some] <;> rfl), by repeat (first | (with_reducible first | exact HB.out | apply pa_' | apply pn_' | apply pd_') | exact HB.out)⟩
         rw [if_neg c40] at H
         have c40b0 : (x9_2 == x10_2) = false := beq_eq_false_iff_ne.mpr c40
         have c40b1 : (x9_2 != x10_2) = true := bne_iff_ne.mpr c40
         obtain rfl := Option.some.inj H
         obtain ⟨Ao49, co49, eo49⟩ := Kd.R_slice HO_12.out
         subst eo49
         go_wp2
         go_ret
         exact ⟨by first | rfl | (simp [errW_none, errW_some] <;> rfl) | (simp [*, errW_none, errW_some] <;> rfl), by repeat (first | (with_reducible first | exact HB.out | apply pa_' | apply pn_' | apply pd_') | exact HB.out)⟩
  replace c19 := Bool.eq_false_iff.mpr c19
  subst c19
  rw [if_neg (show ¬ (false = true) by decide)] at H
  have H' := sk_' H
  clear H
  go_wp2
  go_meet
  case rel => exact ⟨_, H', ⟨by first | omega | exact Nat.le_refl _⟩, ⟨by repeat (first | (with_reducible first | exact HB.out | apply pa_' | apply pn_' | apply pd_') | exact HB.out)⟩⟩
 case rest =>
  clear HC13
  try clear c1
  try clear c2
  try clear p2
  try clear c3
  try clear c4
  try clear p6
  try clear c7
  try clear c7b0
  try clear c7b1
  try clear c7b2
  try clear p9
  try clear q9
  try clear hx9
  try clear c10
  try clear c19
  try clear c22
  try clear c23
  try clear c24
  try clear c25
  try clear c26
  try clear c27
  try clear c28
  try clear c28b0
  try clear c29
  try clear c29b0
  try clear c30
  try clear c30b0
  try clear c35
  try clear c35b0
  try clear c36
  try clear c36b0
  try clear c37
  try clear c37b0
  try clear c40
  try clear c40b0
  try clear c40b1
  try clear c42
  try clear c42b0
  try clear c42b1
  try clear c42b2
  try clear hx970_0
  try clear hx970_1
  try clear hx971_0
  try clear hx971_1
  try clear hx971_2
  try clear hx971_3
  try clear hx975_0
  try clear p2
  try clear p6
  try clear p9
  try clear p970
  try clear p971
  try clear p975
  try clear q9
  try clear q970
  try clear q971
  try clear q975
  obtain ⟨kq, HA, HJ12, HB⟩ := hcut
  cases kq with
  | zero => exact absurd HA.out (by simp [laws_FnPerformances.j3])
  | succ kj12 =>
   have H := HA.out
   clear HA
   simp only [laws_FnPerformances.j3] at H
   replace H := bs_' H
   obtain ⟨⟨t979, t980⟩, A500, H⟩ := H
   try dsimp only at H
   have A50 := sk_' A500
   clear A500
   replace H := bs_' H
   obtain ⟨⟨t983, t984⟩, A510, H⟩ := H
   try dsimp only at H
   have A51 := sk_' A510
   clear A510
   by_cases c52 : t984 = true
   ·
    subst c52
    rw [if_pos rfl] at H
    replace H := bs_' H
    obtain ⟨t987, A530, H⟩ := H
    try dsimp only at H
    have A53 := sk_' A530
    clear A530
    replace H := bs_' H
    obtain ⟨t990, A540, H⟩ := H
    try dsimp only at H
    have A54 := sk_' A540
    clear A540
    replace H := bs_' H
    obtain ⟨t993, A550, H⟩ := H
    try dsimp only at H
    have A55 := sk_' A550
    clear A550
    by_cases c56 : t993 = true
    ·
     subst c56
     rw [if_pos rfl] at H
     replace H := bs_' H
     obtain ⟨t994, A570, H⟩ := H
     try dsimp only at H
     have A57 := sk_' A570
     clear A570
     replace H := bs_' H
     obtain ⟨t997, A580, H⟩ := H
     try dsimp only at H
     have A58 := sk_' A580
     clear A580
     replace H := bs_' H
     obtain ⟨t1000, A590, H⟩ := H
     try dsimp only at H
     have A59 := sk_' A590
     clear A590
     obtain rfl := Option.some.inj H
     go_wp2_with (first | ((with_reducible refine xj_' (f := 28) rfl ?_); refine goesL_ (some 97) rfl rfl Try.func28 (by kernel_rfl) rfl #[.slice A0 l0.length c0] rfl (by (try simp only [xm_', xc_', xn_']); first | done | rfl | (simp only [xd_', xt_']; rfl)) ?_; (with_reducible refine (spec_DrawShiftAll.calls kj12 _ _ l0 t979 t980 _ ?side1 ?side2 A50.out).mono ?_); (case side1 => repeat (first | exact (Kd.C_below HR0.out HB.out) | (with_reducible refine xg_' ?_ _) | (with_reducible refine xe_' ?_ _) | (with_reducible refine xf_' ?_))); (case side2 => exact HC0.out); rintro e w60 ⟨v981, rfl, ho0, hb⟩; refine ⟨_, rfl, ?_⟩; have n0_ := sk_' (Kd.R_lower ho0 (ps_' (by repeat (first | (with_reducible first | exact HB.out | apply pa_' | apply pn_' | apply pd_') | exact HB.out)))); have n1_ := sk_' (pp_' (by repeat (first | (with_reducible first | exact HB.out | apply pa_' | apply pn_' | apply pd_') | exact HB.out)) hb); clear HB; have HO982 := n0_; have HB := n1_; clear n0_ n1_; (try clear hb); (try clear hb2); (try clear hk); (try clear hi); (try clear ho0); obtain ⟨Ao61, co61, eo61⟩ := Kd.R_slice HO982.out; subst eo61) | ((with_reducible refine xj_' (f := 29) rfl ?_); refine goesL_ (some 103) rfl rfl Try.func29 (by kernel_rfl) rfl #[.slice Ao61 t979.length co61, .int .i64 t980] rfl (by (try simp only [xm_', xc_', xn_']); first | done | rfl | (simp only [xd_', xt_']; rfl)) ?_; (with_reducible refine (impl_ShiftAll.calls kj12 _ _ t979 t980 t983 true _ ?side1 ?side2 A51.out).mono ?_); (case side1 => repeat (first | exact (xr_' HO982.out).2.2 | (with_reducible refine xg_' ?_ _) | (with_reducible refine xe_' ?_ _) | (with_reducible refine xf_' ?_))); (case side2 => exact (xr_' HO982.out).2.1); rintro e w62 ⟨v985, rfl, ho0, hb⟩; refine ⟨_, rfl, ?_⟩; have n0_ := sk_' (Kd.R_elder' (by (with_reducible repeat (first | apply ra_' | apply rn_' | apply rd1_')); exact HO982.out) (Kd.R_base ho0) hb); have n1_ := sk_' (Kd.R_lower (Kd.R_new' ho0 (Kd.R_lt (by (with_reducible repeat (first | apply ra_' | apply rn_' | apply rd1_')); exact HO982.out))) (ps_' (by repeat (first | (with_reducible first | exact HB.out | apply pa_' | apply pn_' | apply pd_') | exact HB.out)))); have n2_ := sk_' (pp_' (by repeat (first | (with_reducible first | exact HB.out | apply pa_' | apply pn_' | apply pd_') | exact HB.out)) hb); clear HO982; clear HB; have HO982 := n0_; have HO986 := n1_; have HB := n2_; clear n0_ n1_ n2_; (try clear hb); (try clear hb2); (try clear hk); (try clear hi); (try clear ho0); obtain ⟨Ao63, co63, eo63⟩ := Kd.R_slice HO986.out; subst eo63) | (go_at_call 26; (with_reducible refine (impl_GapsOf.calls kj12 _ _ t983 t987 _ ?side1 ?side2 A53.out).mono ?_); (case side1 => repeat (first | exact (xr_' HO986.out).2.2 | (with_reducible refine xg_' ?_ _) | (with_reducible refine xe_' ?_ _) | (with_reducible refine xf_' ?_))); (case side2 => exact (xr_' HO986.out).2.1); rintro e w64 ⟨v988, rfl, ho0, hb⟩; have n0_ := sk_' (xb_' (by (with_reducible repeat (first | apply ra_' | apply rn_' | apply rd1_')); exact HO982.out) hb); have n1_ := sk_' (xb_' (by (with_reducible repeat (first | apply ra_' | apply rn_' | apply rd1_')); exact HO986.out) hb); have n2_ := sk_' (Kd.R_lower ho0 (ps_' (by repeat (first | (with_reducible first | exact HB.out | apply pa_' | apply pn_' | apply pd_') | exact HB.out)))); have n3_ := sk_' (pp_' (by repeat (first | (with_reducible first | exact HB.out | apply pa_' | apply pn_' | apply pd_') | exact HB.out)) hb); clear HO982; clear HO986; clear HB; have HO982 := n0_; have HO986 := n1_; have HO989 := n2_; have HB := n3_; clear n0_ n1_ n2_ n3_; (try clear hb); (try clear hb2); (try clear hk); (try clear hi); (try clear ho0)) | (go_at_call 26; (with_reducible refine (impl_GapsOf.calls kj12 _ _ t979 t990 _ ?side1 ?side2 A54.out).mono ?_); (case side1 => repeat (first | exact (xr_' HO982.out).2.2 | (with_reducible refine xg_' ?_ _) | (with_reducible refine xe_' ?_ _) | (with_reducible refine xf_' ?_))); (case side2 => exact (xr_' HO982.out).2.1); rintro e w65 ⟨v991, rfl, ho0, hb⟩; have n0_ := sk_' (xb_' (by (with_reducible repeat (first | apply ra_' | apply rn_' | apply rd1_')); exact HO982.out) hb); have n1_ := sk_' (xb_' (by (with_reducible repeat (first | apply ra_' | apply rn_' | apply rd1_')); exact HO986.out) hb); have n2_ := sk_' (Kd.R_elder' (by (with_reducible repeat (first | apply ra_' | apply rn_' | apply rd1_')); exact HO989.out) (Kd.R_base ho0) hb); have n3_ := sk_' (Kd.R_lower (Kd.R_new' ho0 (Kd.R_lt (by (with_reducible repeat (first | apply ra_' | apply rn_' | apply rd1_')); exact HO989.out))) (ps_' (by repeat (first | (with_reducible first | exact HB.out | apply pa_' | apply pn_' | apply pd_') | exact HB.out)))); have n4_ := sk_' (pp_' (by repeat (first | (with_reducible first | exact HB.out | apply pa_' | apply pn_' | apply pd_') | exact HB.out)) hb); clear HO982; clear HO986; clear HO989; clear HB; have HO982 := n0_; have HO986 := n1_; have HO989 := n2_; have HO992 := n3_; have HB := n4_; clear n0_ n1_ n2_ n3_ n4_; (try clear hb); (try clear hb2); (try clear hk); (try clear hi); (try clear ho0); obtain ⟨Ao66, co66, eo66⟩ := Kd.R_slice HO989.out; subst eo66; obtain ⟨Ao67, co67, eo67⟩ := Kd.R_slice HO992.out; subst eo67) | (go_at_call 30; (with_reducible refine (laws_sameInts.calls kj12 _ _ t987 _ _ t990 true _ ?side1 ?side2 ?side3 ?side4 A55.out).mono ?_); (case side1 => repeat (first | exact (xr_' HO989.out).2.2 | (with_reducible refine xg_' ?_ _) | (with_reducible refine xe_' ?_ _) | (with_reducible refine xf_' ?_))); (case side2 => exact (xr_' HO989.out).2.1); (case side3 => repeat (first | exact (xr_' HO992.out).2.2 | (with_reducible refine xg_' ?_ _) | (with_reducible refine xe_' ?_ _) | (with_reducible refine xf_' ?_))); (case side4 => exact (xr_' HO992.out).2.1); rintro e w' ⟨rfl, ⟨nd, rfl⟩⟩) | (go_at_call 27; (with_reducible refine (impl_PitchesOf.calls kj12 _ _ t983 t994 _ ?side1 ?side2 A57.out).mono ?_); (case side1 => repeat (first | exact (xr_' HO986.out).2.2 | (with_reducible refine xg_' ?_ _) | (with_reducible refine xe_' ?_ _) | (with_reducible refine xf_' ?_))); (case side2 => exact (xr_' HO986.out).2.1); rintro e w68 ⟨v995, rfl, ho0, hb⟩; have n0_ := sk_' (xb_' (by (with_reducible repeat (first | apply ra_' | apply rn_' | apply rd1_')); exact HO982.out) hb); have n1_ := sk_' (xb_' (by (with_reducible repeat (first | apply ra_' | apply rn_' | apply rd1_')); exact HO986.out) hb); have n2_ := sk_' (Kd.R_elder' (by (with_reducible repeat (first | apply ra_' | apply rn_' | apply rd1_')); exact HO989.out) (Kd.R_base ho0) hb); have n3_ := sk_' (Kd.R_elder' (by (with_reducible repeat (first | apply ra_' | apply rn_' | apply rd1_')); exact HO992.out) (Kd.R_base ho0) hb); have n4_ := sk_' (Kd.R_lower (Kd.R_new' (Kd.R_new' ho0 (Kd.R_lt (by (with_reducible repeat (first | apply ra_' | apply rn_' | apply rd1_')); exact HO989.out))) (Kd.R_lt (by (with_reducible repeat (first | apply ra_' | apply rn_' | apply rd1_')); exact HO992.out))) (ps_' (by repeat (first | (with_reducible first | exact HB.out | apply pa_' | apply pn_' | apply pd_') | exact HB.out)))); have n5_ := sk_' (pp_' (by repeat (first | (with_reducible first | exact HB.out | apply pa_' | apply pn_' | apply pd_') | exact HB.out)) hb); clear HO982; clear HO986; clear HO989; clear HO992; clear HB; have HO982 := n0_; have HO986 := n1_; have HO989 := n2_; have HO992 := n3_; have HO996 := n4_; have HB := n5_; clear n0_ n1_ n2_ n3_ n4_ n5_; (try clear hb); (try clear hb2); (try clear hk); (try clear hi); (try clear ho0)) | (go_at_call 27; (with_reducible refine (impl_PitchesOf.calls kj12 _ _ t979 t997 _ ?side1 ?side2 A58.out).mono ?_); (case side1 => repeat (first | exact (xr_' HO982.out).2.2 | (with_reducible refine xg_' ?_ _) | (with_reducible refine xe_' ?_ _) | (with_reducible refine xf_' ?_))); (case side2 => exact (xr_' HO982.out).2.1); rintro e w69 ⟨v998, rfl, ho0, hb⟩; have n0_ := sk_' (xb_' (by (with_reducible repeat (first | apply ra_' | apply rn_' | apply rd1_')); exact HO982.out) hb); have n1_ := sk_' (xb_' (by (with_reducible repeat (first | apply ra_' | apply rn_' | apply rd1_')); exact HO986.out) hb); have n2_ := sk_' (Kd.R_elder' (by (with_reducible repeat (first | apply ra_' | apply rn_' | apply rd1_')); exact HO989.out) (Kd.R_base ho0) hb); have n3_ := sk_' (Kd.R_elder' (by (with_reducible repeat (first | apply ra_' | apply rn_' | apply rd1_')); exact HO992.out) (Kd.R_base ho0) hb); have n4_ := sk_' (Kd.R_elder' (by (with_reducible repeat (first | apply ra_' | apply rn_' | apply rd1_')); exact HO996.out) (Kd.R_base ho0) hb); have n5_ := sk_' (Kd.R_lower (Kd.R_new' (Kd.R_new' (Kd.R_new' ho0 (Kd.R_lt (by (with_reducible repeat (first | apply ra_' | apply rn_' | apply rd1_')); exact HO989.out))) (Kd.R_lt (by (with_reducible repeat (first | apply ra_' | apply rn_' | apply rd1_')); exact HO992.out))) (Kd.R_lt (by (with_reducible repeat (first | apply ra_' | apply rn_' | apply rd1_')); exact HO996.out))) (ps_' (by repeat (first | (with_reducible first | exact HB.out | apply pa_' | apply pn_' | apply pd_') | exact HB.out)))); have n6_ := sk_' (pp_' (by repeat (first | (with_reducible first | exact HB.out | apply pa_' | apply pn_' | apply pd_') | exact HB.out)) hb); clear HO982; clear HO986; clear HO989; clear HO992; clear HO996; clear HB; have HO982 := n0_; have HO986 := n1_; have HO989 := n2_; have HO992 := n3_; have HO996 := n4_; have HO999 := n5_; have HB := n6_; clear n0_ n1_ n2_ n3_ n4_ n5_ n6_; (try clear hb); (try clear hb2); (try clear hk); (try clear hi); (try clear ho0); obtain ⟨Ao70, co70, eo70⟩ := Kd.R_slice HO996.out; subst eo70; obtain ⟨Ao71, co71, eo71⟩ := Kd.R_slice HO999.out; subst eo71) | (go_at_call 30; (with_reducible refine (laws_sameInts.calls kj12 _ _ t994 _ _ t997 t1000 _ ?side1 ?side2 ?side3 ?side4 A59.out).mono ?_); (case side1 => repeat (first | exact (xr_' HO996.out).2.2 | (with_reducible refine xg_' ?_ _) | (with_reducible refine xe_' ?_ _) | (with_reducible refine xf_' ?_))); (case side2 => exact (xr_' HO996.out).2.1); (case side3 => repeat (first | exact (xr_' HO999.out).2.2 | (with_reducible refine xg_' ?_ _) | (with_reducible refine xe_' ?_ _) | (with_reducible refine xf_' ?_))); (case side4 => exact (xr_' HO999.out).2.1); rintro e w' ⟨rfl, ⟨nd, rfl⟩⟩))
     go_ret
     exact ⟨by first | rfl | (simp [errW_none, errW_some] <;> rfl) | (simp [*, errW_none, errW_some] <;> rfl), by repeat (first | (with_reducible first | exact HB.out | apply pa_' | apply pn_' | apply pd_') | exact HB.out)⟩
    replace c56 := Bool.eq_false_iff.mpr c56
    subst c56
    rw [if_neg (show ¬ (false = true) by decide)] at H
    obtain rfl := Option.some.inj H
    go_wp2_with (first | ((with_reducible refine xj_' (f := 28) rfl ?_); refine goesL_ (some 97) rfl rfl Try.func28 (by kernel_rfl) rfl #[.slice A0 l0.length c0] rfl (by (try simp only [xm_', xc_', xn_']); first | done | rfl | (simp only [xd_', xt_']; rfl)) ?_; (with_reducible refine (spec_DrawShiftAll.calls kj12 _ _ l0 t979 t980 _ ?side1 ?side2 A50.out).mono ?_); (case side1 => repeat (first | exact (Kd.C_below HR0.out HB.out) | (with_reducible refine xg_' ?_ _) | (with_reducible refine xe_' ?_ _) | (with_reducible refine xf_' ?_))); (case side2 => exact HC0.out); rintro e w72 ⟨v981, rfl, ho0, hb⟩; refine ⟨_, rfl, ?_⟩; have n0_ := sk_' (Kd.R_lower ho0 (ps_' (by repeat (first | (with_reducible first | exact HB.out | apply pa_' | apply pn_' | apply pd_') | exact HB.out)))); have n1_ := sk_' (pp_' (by repeat (first | (with_reducible first | exact HB.out | apply pa_' | apply pn_' | apply pd_') | exact HB.out)) hb); clear HB; have HO982 := n0_; have HB := n1_; clear n0_ n1_; (try clear hb); (try clear hb2); (try clear hk); (try clear hi); (try clear ho0); obtain ⟨Ao73, co73, eo73⟩ := Kd.R_slice HO982.out; subst eo73) | ((with_reducible refine xj_' (f := 29) rfl ?_); refine goesL_ (some 103) rfl rfl Try.func29 (by kernel_rfl) rfl #[.slice Ao73 t979.length co73, .int .i64 t980] rfl (by (try simp only [xm_', xc_', xn_']); first | done | rfl | (simp only [xd_', xt_']; rfl)) ?_; (with_reducible refine (impl_ShiftAll.calls kj12 _ _ t979 t980 t983 true _ ?side1 ?side2 A51.out).mono ?_); (case side1 => repeat (first | exact (xr_' HO982.out).2.2 | (with_reducible refine xg_' ?_ _) | (with_reducible refine xe_' ?_ _) | (with_reducible refine xf_' ?_))); (case side2 => exact (xr_' HO982.out).2.1); rintro e w74 ⟨v985, rfl, ho0, hb⟩; refine ⟨_, rfl, ?_⟩; have n0_ := sk_' (Kd.R_elder' (by (with_reducible repeat (first | apply ra_' | apply rn_' | apply rd1_')); exact HO982.out) (Kd.R_base ho0) hb); have n1_ := sk_' (Kd.R_lower (Kd.R_new' ho0 (Kd.R_lt (by (with_reducible repeat (first | apply ra_' | apply rn_' | apply rd1_')); exact HO982.out))) (ps_' (by repeat (first | (with_reducible first | exact HB.out | apply pa_' | apply pn_' | apply pd_') | exact HB.out)))); have n2_ := sk_' (pp_' (by repeat (first | (with_reducible first | exact HB.out | apply pa_' | apply pn_' | apply pd_') | exact HB.out)) hb); clear HO982; clear HB; have HO982 := n0_; have HO986 := n1_; have HB := n2_; clear n0_ n1_ n2_; (try clear hb); (try clear hb2); (try clear hk); (try clear hi); (try clear ho0); obtain ⟨Ao75, co75, eo75⟩ := Kd.R_slice HO986.out; subst eo75) | (go_at_call 26; (with_reducible refine (impl_GapsOf.calls kj12 _ _ t983 t987 _ ?side1 ?side2 A53.out).mono ?_); (case side1 => repeat (first | exact (xr_' HO986.out).2.2 | (with_reducible refine xg_' ?_ _) | (with_reducible refine xe_' ?_ _) | (with_reducible refine xf_' ?_))); (case side2 => exact (xr_' HO986.out).2.1); rintro e w76 ⟨v988, rfl, ho0, hb⟩; have n0_ := sk_' (xb_' (by (with_reducible repeat (first | apply ra_' | apply rn_' | apply rd1_')); exact HO982.out) hb); have n1_ := sk_' (xb_' (by (with_reducible repeat (first | apply ra_' | apply rn_' | apply rd1_')); exact HO986.out) hb); have n2_ := sk_' (Kd.R_lower ho0 (ps_' (by repeat (first | (with_reducible first | exact HB.out | apply pa_' | apply pn_' | apply pd_') | exact HB.out)))); have n3_ := sk_' (pp_' (by repeat (first | (with_reducible first | exact HB.out | apply pa_' | apply pn_' | apply pd_') | exact HB.out)) hb); clear HO982; clear HO986; clear HB; have HO982 := n0_; have HO986 := n1_; have HO989 := n2_; have HB := n3_; clear n0_ n1_ n2_ n3_; (try clear hb); (try clear hb2); (try clear hk); (try clear hi); (try clear ho0)) | (go_at_call 26; (with_reducible refine (impl_GapsOf.calls kj12 _ _ t979 t990 _ ?side1 ?side2 A54.out).mono ?_); (case side1 => repeat (first | exact (xr_' HO982.out).2.2 | (with_reducible refine xg_' ?_ _) | (with_reducible refine xe_' ?_ _) | (with_reducible refine xf_' ?_))); (case side2 => exact (xr_' HO982.out).2.1); rintro e w77 ⟨v991, rfl, ho0, hb⟩; have n0_ := sk_' (xb_' (by (with_reducible repeat (first | apply ra_' | apply rn_' | apply rd1_')); exact HO982.out) hb); have n1_ := sk_' (xb_' (by (with_reducible repeat (first | apply ra_' | apply rn_' | apply rd1_')); exact HO986.out) hb); have n2_ := sk_' (Kd.R_elder' (by (with_reducible repeat (first | apply ra_' | apply rn_' | apply rd1_')); exact HO989.out) (Kd.R_base ho0) hb); have n3_ := sk_' (Kd.R_lower (Kd.R_new' ho0 (Kd.R_lt (by (with_reducible repeat (first | apply ra_' | apply rn_' | apply rd1_')); exact HO989.out))) (ps_' (by repeat (first | (with_reducible first | exact HB.out | apply pa_' | apply pn_' | apply pd_') | exact HB.out)))); have n4_ := sk_' (pp_' (by repeat (first | (with_reducible first | exact HB.out | apply pa_' | apply pn_' | apply pd_') | exact HB.out)) hb); clear HO982; clear HO986; clear HO989; clear HB; have HO982 := n0_; have HO986 := n1_; have HO989 := n2_; have HO992 := n3_; have HB := n4_; clear n0_ n1_ n2_ n3_ n4_; (try clear hb); (try clear hb2); (try clear hk); (try clear hi); (try clear ho0); obtain ⟨Ao78, co78, eo78⟩ := Kd.R_slice HO989.out; subst eo78; obtain ⟨Ao79, co79, eo79⟩ := Kd.R_slice HO992.out; subst eo79) | (go_at_call 30; (with_reducible refine (laws_sameInts.calls kj12 _ _ t987 _ _ t990 false _ ?side1 ?side2 ?side3 ?side4 A55.out).mono ?_); (case side1 => repeat (first | exact (xr_' HO989.out).2.2 | (with_reducible refine xg_' ?_ _) | (with_reducible refine xe_' ?_ _) | (with_reducible refine xf_' ?_))); (case side2 => exact (xr_' HO989.out).2.1); (case side3 => repeat (first | exact (xr_' HO992.out).2.2 | (with_reducible refine xg_' ?_ _) | (with_reducible refine xe_' ?_ _) | (with_reducible refine xf_' ?_))); (case side4 => exact (xr_' HO992.out).2.1); rintro e w' ⟨rfl, ⟨nd, rfl⟩⟩))
    go_ret
    exact ⟨by first | rfl | (simp [errW_none, errW_some] <;> rfl) | (simp [*, errW_none, errW_some] <;> rfl), by repeat (first | (with_reducible first | exact HB.out | apply pa_' | apply pn_' | apply pd_') | exact HB.out)⟩
   replace c52 := Bool.eq_false_iff.mpr c52
   subst c52
   rw [if_neg (show ¬ (false = true) by decide)] at H
   obtain rfl := Option.some.inj H
   go_wp2_with (first | ((with_reducible refine xj_' (f := 28) rfl ?_); refine goesL_ (some 97) rfl rfl Try.func28 (by kernel_rfl) rfl #[.slice A0 l0.length c0] rfl (by (try simp only [xm_', xc_', xn_']); first | done | rfl | (simp only [xd_', xt_']; rfl)) ?_; (with_reducible refine (spec_DrawShiftAll.calls kj12 _ _ l0 t979 t980 _ ?side1 ?side2 A50.out).mono ?_); (case side1 => repeat (first | exact (Kd.C_below HR0.out HB.out) | (with_reducible refine xg_' ?_ _) | (with_reducible refine xe_' ?_ _) | (with_reducible refine xf_' ?_))); (case side2 => exact HC0.out); rintro e w80 ⟨v981, rfl, ho0, hb⟩; refine ⟨_, rfl, ?_⟩; have n0_ := sk_' (Kd.R_lower ho0 (ps_' (by repeat (first | (with_reducible first | exact HB.out | apply pa_' | apply pn_' | apply pd_') | exact HB.out)))); have n1_ := sk_' (pp_' (by repeat (first | (with_reducible first | exact HB.out | apply pa_' | apply pn_' | apply pd_') | exact HB.out)) hb); clear HB; have HO982 := n0_; have HB := n1_; clear n0_ n1_; (try clear hb); (try clear hb2); (try clear hk); (try clear hi); (try clear ho0); obtain ⟨Ao81, co81, eo81⟩ := Kd.R_slice HO982.out; subst eo81) | ((with_reducible refine xj_' (f := 29) rfl ?_); refine goesL_ (some 103) rfl rfl Try.func29 (by kernel_rfl) rfl #[.slice Ao81 t979.length co81, .int .i64 t980] rfl (by (try simp only [xm_', xc_', xn_']); first | done | rfl | (simp only [xd_', xt_']; rfl)) ?_; (with_reducible refine (impl_ShiftAll.calls kj12 _ _ t979 t980 t983 false _ ?side1 ?side2 A51.out).mono ?_); (case side1 => repeat (first | exact (xr_' HO982.out).2.2 | (with_reducible refine xg_' ?_ _) | (with_reducible refine xe_' ?_ _) | (with_reducible refine xf_' ?_))); (case side2 => exact (xr_' HO982.out).2.1); rintro e w82 ⟨v985, rfl, ho0, hb⟩; refine ⟨_, rfl, ?_⟩; have n0_ := sk_' (Kd.R_elder' (by (with_reducible repeat (first | apply ra_' | apply rn_' | apply rd1_')); exact HO982.out) (Kd.R_base ho0) hb); have n1_ := sk_' (Kd.R_lower (Kd.R_new' ho0 (Kd.R_lt (by (with_reducible repeat (first | apply ra_' | apply rn_' | apply rd1_')); exact HO982.out))) (ps_' (by repeat (first | (with_reducible first | exact HB.out | apply pa_' | apply pn_' | apply pd_') | exact HB.out)))); have n2_ := sk_' (pp_' (by repeat (first | (with_reducible first | exact HB.out | apply pa_' | apply pn_' | apply pd_') | exact HB.out)) hb); clear HO982; clear HB; have HO982 := n0_; have HO986 := n1_; have HB := n2_; clear n0_ n1_ n2_; (try clear hb); (try clear hb2); (try clear hk); (try clear hi); (try clear ho0)))
   go_ret
   exact ⟨by first | rfl | (simp [errW_none, errW_some] <;> rfl) | (simp [*, errW_none, errW_some] <;> rfl), by repeat (first | (with_reducible first | exact HB.out | apply pa_' | apply pn_' | apply pd_') | exact HB.out)⟩
end Go.Proofs.Ytbhlmeghbfmgiaa.F

namespace Go.Proofs.Ytbhlmeghbfmgiaa.Opened
open Go.ChangeShapes Go.WideShapes Go.Deep Go.RowKit Go.Joins Go.Proofs.YtbhlmeghbfmgiaaW.PrintWords
set_option linter.unusedVariables false
def I64 (n : Int) : Prop := -9223372036854775808 ≤ n ∧ n ≤ 9223372036854775807
theorem i64_of {n : Int} (h : (Lit.int .i64 n).wf = true) : I64 n := bounds_i64 h
section
variable {H : Type} {enc : TypeId × Value → H} {P : Program} {w : World} {base : Nat} {spare : Nat → Bool} {held : Bool}
def Fits (enc : TypeId × Value → H) (P : Program) (w : World) (base : Nat) (spare : Nat → Bool) (held : Bool) (fs : Array Field) (vs : List Value) : Prop :=
  vs.length = fs.size ∧ ∀ (j : Nat) (f : Field) (v : Value), fs[j]? = some f → vs[j]? = some v → ∃ (n : Nat) (y : DataW H × List MemPlace), DataW.trod enc P w base spare held n f.type [v] = some y
theorem Fits.int {fs : Array Field} {vs : List Value} (h : Fits enc P w base spare held fs vs) {j : Nat} {f : Field} (hf : fs[j]? = some f) (ht : P.underlying f.type = some (.int .i64)) : ∃ n, vs[j]? = some (.int .i64 n) ∧ I64 n := by
  have hj : j < vs.length := by rw [h.1]; exact (Array.getElem?_eq_some_iff.1 hf).1
  obtain ⟨m, y, hy⟩ := h.2 j f _ hf (List.getElem?_eq_getElem hj)
  obtain ⟨n, e, _, hw⟩ := DataW.trod_int ht hy
  simp only [List.cons.injEq, and_true] at e
  exact ⟨n, by rw [List.getElem?_eq_getElem hj, e], i64_of hw⟩
theorem Fits.bool {fs : Array Field} {vs : List Value} (h : Fits enc P w base spare held fs vs) {j : Nat} {f : Field} (hf : fs[j]? = some f) (ht : P.underlying f.type = some .bool) : ∃ b, vs[j]? = some (.bool b) := by
  have hj : j < vs.length := by rw [h.1]; exact (Array.getElem?_eq_some_iff.1 hf).1
  obtain ⟨m, y, hy⟩ := h.2 j f _ hf (List.getElem?_eq_getElem hj)
  obtain ⟨n, e, _⟩ := DataW.trod_bool ht hy
  simp only [List.cons.injEq, and_true] at e
  exact ⟨n, by rw [List.getElem?_eq_getElem hj, e]⟩
theorem open_nums {k : IntKind} {t e : TypeId} {a : Option Addr} {len cap : Nat} {dd : DataW H} {ps : List MemPlace} (ht : P.underlying t = some (.slice e)) (he : P.underlying e = some (.int k)) (hC : P.cellsOf e = 1)
    (h : DataW.Trod enc P w base spare held t (.slice a len cap) dd ps) : ∃ l : List Int, l.length = len ∧ len ≤ cap ∧ (Kd.int k).C w a len l ∧ ∀ x ∈ l, (Lit.int k x).wf = true := by
  obtain ⟨fuel, hf⟩ := h
  rcases open_ints ht he hC hf with ⟨hcs, _⟩ | ⟨x, l, c, zs, hcs, _, hl, hm, hz, _, hcell, hwz⟩
  · simp [Value.cells] at hcs
    obtain ⟨rfl, rfl, rfl⟩ := hcs
    exact ⟨[], rfl, Nat.le_refl _, Kd.C_nil _ w, by simp⟩
  · simp [Value.cells] at hcs
    obtain ⟨rfl, rfl, rfl⟩ := hcs
    have hlz : len ≤ zs.length := by rw [hz]; split <;> omega
    refine ⟨zs.take len, by simp [hlz], hl, ⟨by simp [hlz], by unfold maxLen at hm; omega, fun _ => ⟨x, rfl, fun j p hj => ⟨[.int k p], rfl, rfl, fun i u hu => ?_⟩⟩⟩, fun y hy => hwz y (List.mem_of_mem_take hy)⟩
    have hjl := (List.getElem?_eq_some_iff.1 hj).1
    rw [List.length_take] at hjl
    have hi : i = 0 := by
      have := (List.getElem?_eq_some_iff.1 hu).1
      simp at this
      omega
    subst hi
    have hu' : Value.int k p = u := by simpa using hu
    rw [← hu', show (Kd.int k).sz = 1 from rfl, Nat.mul_one, Nat.add_zero, hcell j (by omega)]
    rw [List.getElem?_take_of_lt (by omega)] at hj
    simp [hj]
end
end Go.Proofs.Ytbhlmeghbfmgiaa.Opened

namespace Go.Proofs.Ytbhlmeghbfmgiaa.F
open Go.RowKit Go.Proofs.Ytbhlmeghbfmgiaa.Opened Go.Proofs.YtbhlmeghbfmgiaaW.PrintWords Go.Proofs.YtbhlmeghbfmgiaaW.PrintLast
set_option linter.unusedVariables false
set_option linter.unusedSimpArgs false
theorem w1 {n m : Nat} (h : n < m) (hm : m ≤ 9223372036854775807) : wrap64 ((n : Int) + 1) = ((n + 1 : Nat) : Int) := by unfold wrap64; omega
theorem wid {x : Int} (h0 : -9223372036854775808 ≤ x) (h1 : x ≤ 9223372036854775807) : wrap64 x = x := by unfold wrap64; omega
theorem set_take {α : Type} (acc : List α) (n : Nat) (v : α) (h : n < acc.length) : (acc.set n v).take (n + 1) = acc.take n ++ [v] := by
  rw [List.take_succ_eq_append_getElem (by simpa using h), List.take_set, List.set_eq_of_length_le (by rw [List.length_take]; omega)]
  simp
theorem rd_nat (xs : List Int) (n : Nat) (h : n < xs.length) : rd xs (n : Int) = xs[n] := by simp [rd, h]
theorem rdT26 (xs : List S26) (n : Nat) (h : n < xs.length) : rd_T26 xs (n : Int) = xs[n] := by simp [rd_T26, h]
theorem rdT49 (xs : List S49) (n : Nat) (h : n < xs.length) : rd_T49 xs (n : Int) = xs[n] := by simp [rd_T49, h]
theorem rdT151 (xs : List S151) (n : Nat) (h : n < xs.length) : rd_T151 xs (n : Int) = xs[n] := by simp [rd_T151, h]
end Go.Proofs.Ytbhlmeghbfmgiaa.F

namespace Go.Proofs.Ytbhlmeghbfmgiaa.F
open Go.RowKit Go.Proofs.Ytbhlmeghbfmgiaa.Opened Go.Proofs.YtbhlmeghbfmgiaaW.PrintWords Go.Proofs.YtbhlmeghbfmgiaaW.PrintLast Go.Proofs.YtbhlmeghbfmgiaaW.PrintMore
set_option linter.unusedVariables false
set_option linter.unusedSimpArgs false
theorem and255 (x : Int) : 0 ≤ Go.bits .and .i64 x 255 ∧ Go.bits .and .i64 x 255 ≤ 255 := by
  have h : (BitVec.ofInt 64 x &&& BitVec.ofInt 64 255).toNat ≤ 255 := by
    rw [BitVec.toNat_and]
    exact Nat.le_trans Nat.and_le_right (by decide)
  have e : Go.bits .and .i64 x 255 = IntKind.i64.wrap (((BitVec.ofInt 64 x &&& BitVec.ofInt 64 255).toNat : Nat) : Int) := rfl
  rw [e]
  generalize (BitVec.ofInt 64 x &&& BitVec.ofInt 64 255).toNat = n at h
  rw [IntKind.wrap_i64]
  omega
theorem spec_l1New.loop (l : List Int) (hm : l.length ≤ 9223372036854775807) : ∀ (d k n : Nat) (h : Int), l.length - n ≤ d → d < k → ∃ h', spec_l1New.l0 k l h (n : Int) = some (l, 0, h') := by
  intro d
  induction d with
  | zero =>
    intro k n h hd hk
    obtain ⟨k, rfl⟩ : ∃ m, k = m + 1 := ⟨k - 1, by omega⟩
    simp only [spec_l1New.l0]
    rw [if_neg (by omega)]
    exact ⟨h, rfl⟩
  | succ d ih =>
    intro k n h hd hk
    obtain ⟨k, rfl⟩ : ∃ m, k = m + 1 := ⟨k - 1, by omega⟩
    simp only [spec_l1New.l0]
    by_cases c : n < l.length
    · rw [if_pos (by omega)]
      by_cases c2 : (n : Int) < 4000
      · rw [if_pos c2, if_pos (by omega), w1 c hm]
        exact ih k (n + 1) _ (by omega) (by omega)
      · rw [if_neg c2]
        exact ⟨h, rfl⟩
    · rw [if_neg (by omega)]
      exact ⟨h, rfl⟩
theorem spec_l1New.ok (l : List Int) (hm : l.length ≤ 9223372036854775807) (k : Nat) (hk : l.length < k) : ∃ h', spec_l1New.f k l = some (l, 0, h') := by
  unfold spec_l1New.f
  exact spec_l1New.loop l hm l.length k 0 _ (by omega) hk
theorem spec_l1Byte.ok (b : List Int) (i h : Int) (hb : b.length ≤ 1048576) (hi : 0 ≤ i) (hi' : i ≤ b.length) : ∃ x i' h', spec_l1Byte.f b i h = some (x, i', h') ∧ (0 ≤ x ∧ x ≤ 255) ∧ 0 ≤ i' ∧ i' ≤ b.length := by
  unfold spec_l1Byte.f
  by_cases c : i < (b.length : Int)
  · rw [if_pos c, if_pos hi]
    have e : wrap64 (i + 1) = i + 1 := wid (by omega) (by omega)
    exact ⟨_, _, _, rfl, and255 _, by omega, by omega⟩
  · rw [if_neg c]
    exact ⟨_, _, _, rfl, and255 _, by omega, by omega⟩
theorem tmodR (x n : Int) (hx : 0 ≤ x) (hn : 0 < n) : 0 ≤ Int.tmod x n ∧ Int.tmod x n < n := by
  rw [Int.tmod_eq_emod_of_nonneg hx]
  exact ⟨Int.emod_nonneg _ (by omega), Int.emod_lt_of_pos _ hn⟩
theorem spec_l1Below.ok (b : List Int) (i h n : Int) (hb : b.length ≤ 1048576) (hi : 0 ≤ i) (hi' : i ≤ b.length) : ∃ x i' h', spec_l1Below.f b i h n = some (x, i', h') ∧ 0 ≤ x ∧ (x < n ∨ (n ≤ 0 ∧ x = 0)) ∧ 0 ≤ i' ∧ i' ≤ b.length := by
  unfold spec_l1Below.f
  by_cases c : n ≤ 0
  · rw [if_pos c]
    exact ⟨_, _, _, rfl, by omega, by omega, hi, hi'⟩
  · rw [if_neg c]
    obtain ⟨x, i1, h1, e1, bx, j1, j1'⟩ := spec_l1Byte.ok b i h hb hi hi'
    rw [e1]
    simp only [Option.bind_some]
    rw [if_neg (show ¬ n = 0 by omega)]
    by_cases c2 : n ≤ 256
    · rw [if_pos c2]
      have := tmodR x n (by omega) (by omega)
      exact ⟨_, _, _, rfl, by omega, by omega, j1, j1'⟩
    · rw [if_neg c2]
      obtain ⟨y, i2, h2, e2, by_, j2, j2'⟩ := spec_l1Byte.ok b i1 h1 hb j1 j1'
      rw [e2]
      simp only [Option.bind_some]
      obtain ⟨z, i3, h3, e3, bz, j3, j3'⟩ := spec_l1Byte.ok b i2 h2 hb j2 j2'
      rw [e3]
      simp only [Option.bind_some]
      rw [if_neg (show ¬ n = 0 by omega)]
      have e : wrap64 (wrap64 (wrap64 (x * 65536) + wrap64 (y * 256)) + z) = x * 65536 + y * 256 + z := by unfold wrap64; omega
      have := tmodR (x * 65536 + y * 256 + z) n (by omega) (by omega)
      rw [e]
      exact ⟨_, _, _, rfl, by omega, by omega, j3, j3'⟩
theorem spec_l1Below.ok' (b : List Int) (i h n : Int) (hn : 0 < n) (hb : b.length ≤ 1048576) (hi : 0 ≤ i) (hi' : i ≤ b.length) : ∃ x i' h', spec_l1Below.f b i h n = some (x, i', h') ∧ 0 ≤ x ∧ x < n ∧ 0 ≤ i' ∧ i' ≤ b.length := by
  obtain ⟨x, i', h', e, a1, a2, a3, a4⟩ := spec_l1Below.ok b i h n hb hi hi'
  exact ⟨x, i', h', e, a1, by omega, a3, a4⟩
theorem spec_l1Int.ok (b : List Int) (i h : Int) (l : List Int) (hl : 0 < l.length) (hb : b.length ≤ 1048576) (hi : 0 ≤ i) (hi' : i ≤ b.length) : ∃ x i' h', spec_l1Int.f b i h l = some (x, i', h') ∧ x ∈ l ∧ 0 ≤ i' ∧ i' ≤ b.length := by
  unfold spec_l1Int.f
  obtain ⟨x, i', h', e, a1, a2, a3, a4⟩ := spec_l1Below.ok' b i h l.length (by omega) hb hi hi'
  rw [e]
  simp only [Option.bind_some]
  rw [if_pos a1, if_pos a2]
  refine ⟨_, _, _, rfl, ?_, a3, a4⟩
  obtain ⟨m, rfl⟩ := Int.eq_ofNat_of_zero_le a1
  rw [rd_nat l m (by omega)]
  exact List.getElem_mem _
theorem spec_l1In.ok (a b c : Int) : spec_l1In.f a b c = some (decide (b ≤ a ∧ a ≤ c)) := by
  unfold spec_l1In.f
  by_cases h : b ≤ a <;> simp [h]
theorem impl_InRange.ok (a b c : Int) : impl_InRange.f a b c = some (decide (b ≤ a ∧ a ≤ c)) := by
  unfold impl_InRange.f
  by_cases h : b ≤ a <;> simp [h]
abbrev Evt := S26
def okE (e : Evt) : Prop := (0 ≤ e.f0 ∧ e.f0 ≤ 2000) ∧ (1 ≤ e.f1 ∧ e.f1 ≤ 96) ∧ (21 ≤ e.f2 ∧ e.f2 ≤ 108) ∧ (1 ≤ e.f3 ∧ e.f3 ≤ 4)
instance (e : Evt) : Decidable (okE e) := by unfold okE; infer_instance
def before (a b : Evt) : Prop := a.f0 < b.f0 ∨ (a.f0 = b.f0 ∧ (a.f3 < b.f3 ∨ (a.f3 = b.f3 ∧ a.f2 < b.f2)))
instance (a b : Evt) : Decidable (before a b) := by unfold before; infer_instance
theorem before_trans {a b c : Evt} (h : before a b) (h' : before b c) : before a c := by unfold before at *; omega
theorem spec_l8Ok.ok (e : Evt) : spec_l8Ok.f e.f0 e.f1 e.f2 e.f3 = some (decide (okE e)) := by
  unfold spec_l8Ok.f okE
  simp only [spec_l1In.ok, Option.bind_some]
  by_cases h1 : 0 ≤ e.f0 ∧ e.f0 ≤ 2000 <;> by_cases h2 : 1 ≤ e.f1 ∧ e.f1 ≤ 96 <;> by_cases h3 : 21 ≤ e.f2 ∧ e.f2 ≤ 108 <;> by_cases h4 : 1 ≤ e.f3 ∧ e.f3 ≤ 4 <;> simp [h1, h2, h3, h4]
theorem spec_l8Before.ok (a b : Evt) : spec_l8Before.f a.f0 a.f1 a.f2 a.f3 b.f0 b.f1 b.f2 b.f3 = some (decide (before a b)) := by
  unfold spec_l8Before.f before
  by_cases h1 : a.f0 = b.f0
  · by_cases h2 : a.f3 = b.f3 <;> simp [h1, h2]
  · simp [h1]
def cmpI (a b : Int) : Int := if a < b then -1 else if b < a then 1 else 0
theorem cmp_Compare_int.ok (a b : Int) : cmp_Compare_int.f a b = some (cmpI a b) := by
  unfold cmp_Compare_int.f cmp_isNaN_int.f cmpI
  by_cases h1 : a < b
  · simp [h1]
  · by_cases h2 : b < a <;> simp [h1, h2]
theorem cmp_Or_int.ok3 (x y z : Int) (k : Nat) (hk : 4 ≤ k) : cmp_Or_int.f k [x, y, z] = some (if x = 0 then (if y = 0 then z else y) else x) := by
  obtain ⟨k, rfl⟩ : ∃ m, k = m + 4 := ⟨k - 4, by omega⟩
  have e1 : wrap64 (1 : Int) = 1 := by unfold wrap64; omega
  have e2 : wrap64 (2 : Int) = 2 := by unfold wrap64; omega
  have e3 : wrap64 (3 : Int) = 3 := by unfold wrap64; omega
  by_cases h1 : x = 0
  · by_cases h2 : y = 0
    · by_cases h3 : z = 0 <;> simp [cmp_Or_int.f, cmp_Or_int.l0, rd, h1, h2, h3, e1, e2, e3]
    · simp [cmp_Or_int.f, cmp_Or_int.l0, rd, h1, h2, e1, e2, e3]
  · simp [cmp_Or_int.f, cmp_Or_int.l0, rd, h1, e1, e2, e3]
def ordE (a b : Evt) : Int := if cmpI a.f0 b.f0 = 0 then (if cmpI a.f3 b.f3 = 0 then cmpI a.f2 b.f2 else cmpI a.f3 b.f3) else cmpI a.f0 b.f0
theorem impl_eventOrder.ok (a b : Evt) (k : Nat) (hk : 4 ≤ k) : impl_eventOrder.f k a.f0 a.f1 a.f2 a.f3 b.f0 b.f1 b.f2 b.f3 = some (ordE a b) := by
  unfold impl_eventOrder.f
  simp only [cmp_Compare_int.ok, Option.bind_some, cmp_Or_int.ok3 _ _ _ k hk]
  rfl
theorem ordE_lt (a b : Evt) : ordE a b < 0 ↔ before a b := by
  unfold ordE cmpI before
  constructor
  · intro h; repeat' split at h
    all_goals omega
  · intro h; repeat' split
    all_goals omega
def scB : Option Evt → List Evt → Bool
  | _, [] => true
  | none, e :: l => decide (okE e) && scB (some e) l
  | some q, e :: l => decide (okE e) && (decide (before q e) && scB (some e) l)
def isScoreB (l : List Evt) : Bool := scB none l && decide (l.length ≤ 40)
theorem scB_some (q : Evt) (l : List Evt) : scB (some q) l = true ↔ (∀ x ∈ l, okE x) ∧ l.Pairwise before ∧ ∀ x ∈ l, before q x := by
  induction l generalizing q with
  | nil => simp [scB]
  | cons e l ih =>
    simp only [scB, Bool.and_eq_true, decide_eq_true_eq, ih e, List.mem_cons, forall_eq_or_imp, List.pairwise_cons]
    constructor
    · rintro ⟨h1, h2, h3, h4, h5⟩
      exact ⟨⟨h1, h3⟩, ⟨h5, h4⟩, h2, fun x hx => before_trans h2 (h5 x hx)⟩
    · rintro ⟨⟨h1, h3⟩, ⟨h5, h4⟩, h2, h6⟩
      exact ⟨h1, h2, h3, h4, h5⟩
theorem scB_none (l : List Evt) : scB none l = true ↔ (∀ x ∈ l, okE x) ∧ l.Pairwise before := by
  cases l with
  | nil => simp [scB]
  | cons e l =>
    simp only [scB, Bool.and_eq_true, decide_eq_true_eq, scB_some, List.mem_cons, forall_eq_or_imp, List.pairwise_cons]
    constructor
    · rintro ⟨h1, h3, h4, h5⟩
      exact ⟨⟨h1, h3⟩, h5, h4⟩
    · rintro ⟨⟨h1, h3⟩, h5, h4⟩
      exact ⟨h1, h3, h4, h5⟩
theorem isScoreB_iff (l : List Evt) : isScoreB l = true ↔ (∀ x ∈ l, okE x) ∧ l.Pairwise before ∧ l.length ≤ 40 := by
  unfold isScoreB
  rw [Bool.and_eq_true, scB_none, decide_eq_true_eq, and_assoc]
def prevAt (l : List Evt) (n : Nat) : Option Evt := if n = 0 then none else l[n - 1]?
theorem prevAt_next (l : List Evt) (n : Nat) (h : n < l.length) : prevAt l (n + 1) = some l[n] := by simp [prevAt, h]
theorem prevAt_pos (l : List Evt) (n : Nat) (h0 : n ≠ 0) (h : n - 1 < l.length) : prevAt l n = some l[n - 1] := by simp [prevAt, h0, h]
theorem spec_IsScore.loop (l : List Evt) (hm : l.length ≤ 9223372036854775807) : ∀ (d k n : Nat), l.length - n ≤ d → d < k → spec_IsScore.l0 k l (n : Int) = some (scB (prevAt l n) (l.drop n) && decide (l.length ≤ 40)) := by
  intro d
  induction d with
  | zero =>
    intro k n hd hk
    obtain ⟨k, rfl⟩ : ∃ m, k = m + 1 := ⟨k - 1, by omega⟩
    simp only [spec_IsScore.l0]
    rw [if_neg (by omega), List.drop_of_length_le (by omega)]
    have e : ((l.length : Int) ≤ 40) ↔ l.length ≤ 40 := by omega
    simp [scB, e]
  | succ d ih =>
    intro k n hd hk
    obtain ⟨k, rfl⟩ : ∃ m, k = m + 1 := ⟨k - 1, by omega⟩
    by_cases h : n < l.length
    · simp only [spec_IsScore.l0]
      rw [if_pos (by omega), if_pos (by omega), rdT26 l n h, spec_l8Ok.ok, w1 h hm, List.drop_eq_getElem_cons h]
      simp only [Option.bind_some]
      have ih' := ih k (n + 1) (by omega) (by omega)
      rw [prevAt_next l n h] at ih'
      by_cases c1 : okE l[n]
      · by_cases c2 : n = 0
        · subst c2
          rw [if_pos (by simpa using c1), if_neg (by omega), ih']
          simp [prevAt, scB, c1]
        · have e : wrap64 ((n : Int) - 1) = ((n - 1 : Nat) : Int) := by unfold wrap64; omega
          rw [if_pos (by simpa using c1), if_pos (by omega), e, if_pos (by omega), if_pos (by omega), rdT26 l (n - 1) (by omega), spec_l8Before.ok]
          simp only [Option.bind_some]
          rw [ih', prevAt_pos l n c2 (by omega)]
          by_cases c3 : before l[n - 1] l[n]
          · simp [scB, c1, c3]
          · simp [scB, c3]
      · rw [if_neg (by simpa using c1)]
        cases prevAt l n <;> simp [scB, c1]
    · simp only [spec_IsScore.l0]
      rw [if_neg (by omega), List.drop_of_length_le (by omega)]
      have e : ((l.length : Int) ≤ 40) ↔ l.length ≤ 40 := by omega
      simp [scB, e]
theorem spec_IsScore.ok (l : List Evt) (hm : l.length ≤ 9223372036854775807) (k : Nat) (hk : l.length < k) : spec_IsScore.f k l = some (isScoreB l) := by
  unfold spec_IsScore.f
  exact spec_IsScore.loop l hm l.length k 0 (by omega) hk
theorem impl_IsScore.loop (l : List Evt) (hm : l.length ≤ 9223372036854775807) : ∀ (d k n : Nat), l.length - n ≤ d → d + 4 < k → impl_IsScore.l0 k l l l.length (n : Int) = some (scB (prevAt l n) (l.drop n) && decide (l.length ≤ 40)) := by
  intro d
  induction d with
  | zero =>
    intro k n hd hk
    obtain ⟨k, rfl⟩ : ∃ m, k = m + 1 := ⟨k - 1, by omega⟩
    simp only [impl_IsScore.l0]
    rw [if_neg (by omega), List.drop_of_length_le (by omega)]
    have e : ((l.length : Int) ≤ 40) ↔ l.length ≤ 40 := by omega
    simp [scB, e]
  | succ d ih =>
    intro k n hd hk
    obtain ⟨k, rfl⟩ : ∃ m, k = m + 1 := ⟨k - 1, by omega⟩
    by_cases h : n < l.length
    · simp only [impl_IsScore.l0, impl_InRange.ok]
      rw [if_pos (by omega), if_pos (by omega), if_pos (by omega), rdT26 l n h, w1 h hm, List.drop_eq_getElem_cons h]
      simp only [Option.bind_some]
      have ih' := ih k (n + 1) (by omega) (by omega)
      rw [prevAt_next l n h] at ih'
      by_cases c1 : okE l[n]
      · obtain ⟨o1, o2, o3, o4⟩ := id c1
        rw [if_pos (by simpa using o1), if_pos (by simpa using o2), if_pos (by simpa using o3), if_pos (by simpa using o4)]
        by_cases c2 : n = 0
        · subst c2
          rw [if_neg (by omega), ih']
          simp [prevAt, scB, c1]
        · have e : wrap64 ((n : Int) - 1) = ((n - 1 : Nat) : Int) := by unfold wrap64; omega
          rw [if_pos (by omega), e, if_pos (by omega), if_pos (by omega), rdT26 l (n - 1) (by omega), impl_eventOrder.ok _ _ k (by omega)]
          simp only [Option.bind_some]
          rw [ih', prevAt_pos l n c2 (by omega)]
          by_cases c3 : before l[n - 1] l[n]
          · have := (ordE_lt l[n - 1] l[n]).2 c3
            rw [if_neg (by omega)]
            simp [scB, c1, c3]
          · have := mt (ordE_lt l[n - 1] l[n]).1 c3
            rw [if_pos (by omega)]
            simp [scB, c3]
      · have c1' := c1
        unfold okE at c1
        have R : scB (prevAt l n) (l[n] :: l.drop (n + 1)) = false := by cases prevAt l n <;> simp [scB, c1']
        rw [R, Bool.false_and]
        by_cases h1 : 0 ≤ l[n].f0 ∧ l[n].f0 ≤ 2000
        · by_cases h2 : 1 ≤ l[n].f1 ∧ l[n].f1 ≤ 96
          · by_cases h3 : 21 ≤ l[n].f2 ∧ l[n].f2 ≤ 108
            · by_cases h4 : 1 ≤ l[n].f3 ∧ l[n].f3 ≤ 4
              · exact absurd ⟨h1, h2, h3, h4⟩ c1
              · rw [if_pos (by simpa using h1), if_pos (by simpa using h2), if_pos (by simpa using h3), if_neg (by simpa using h4)]
            · rw [if_pos (by simpa using h1), if_pos (by simpa using h2), if_neg (by simpa using h3)]
          · rw [if_pos (by simpa using h1), if_neg (by simpa using h2)]
        · rw [if_neg (by simpa using h1)]
    · simp only [impl_IsScore.l0]
      rw [if_neg (by omega), List.drop_of_length_le (by omega)]
      have e : ((l.length : Int) ≤ 40) ↔ l.length ≤ 40 := by omega
      simp [scB, e]
theorem impl_IsScore.ok (l : List Evt) (hm : l.length ≤ 9223372036854775807) (k : Nat) (hk : l.length + 4 < k) : impl_IsScore.f k l = some (isScoreB l) := by
  unfold impl_IsScore.f
  exact impl_IsScore.loop l hm l.length k 0 (by omega) hk
end Go.Proofs.Ytbhlmeghbfmgiaa.F

namespace Go.Proofs.Ytbhlmeghbfmgiaa.F
open Go.RowKit Go.Proofs.YtbhlmeghbfmgiaaW.PrintWords Go.Proofs.YtbhlmeghbfmgiaaW.PrintLast Go.Proofs.YtbhlmeghbfmgiaaW.PrintMore
attribute [local go_sem] max2_int min2_int max_two min_two max_three min_three max_four min_four
set_option linter.unusedVariables false
set_option linter.unusedSimpArgs false
theorem eqA26 (d : Nat) (w : World) (x0 y0 : Int) (x1 y1 : Int) (x2 y2 : Int) (x3 y3 : Int) :
  (Op.equalIn (d + 2) 26 (.agg #[.int .i64 x0, .int .i64 x1, .int .i64 x2, .int .i64 x3]) (.agg #[.int .i64 y0, .int .i64 y1, .int .i64 y2, .int .i64 y3])).run Try.prog w = .ok (x0 == y0 && (x1 == y1 && (x2 == y2 && (x3 == y3)))) w := by
 refine eqA_of Try.underlying26 (by kernel_rfl) ?_
 refine eqf_cons (by rfl) (by go_simp; rfl) (by go_simp; rfl) (by go_simp) ?_
 refine eqf_cons (by rfl) (by go_simp; rfl) (by go_simp; rfl) (by go_simp) ?_
 refine eqf_cons (by rfl) (by go_simp; rfl) (by go_simp; rfl) (by go_simp) ?_
 exact eqf_last (by rfl) (by go_simp; rfl) (by go_simp; rfl) (by go_simp)
end Go.Proofs.Ytbhlmeghbfmgiaa.F

namespace Go.Proofs.Ytbhlmeghbfmgiaa.F
open Go.RowKit Go.Proofs.YtbhlmeghbfmgiaaW.PrintWords Go.Proofs.YtbhlmeghbfmgiaaW.PrintLast Go.Proofs.YtbhlmeghbfmgiaaW.PrintMore
attribute [local go_sem] max2_int min2_int max_two min_two max_three min_three max_four min_four
set_option linter.unusedVariables false
set_option linter.unusedSimpArgs false
def notV (a1 : Int) (x : S26) : Bool := x.f3 != a1
structure VoInv (a1 : Int) (l x : List S26) (i j : Nat) : Prop where
 len : x.length = l.length
 lt : i < j
 le : j ≤ l.length
 kept : x.take i = (l.take j).filter (fun y => !notV a1 y)
 rest : x.drop j = l.drop j
theorem VoInv.skip {a1 : Int} {l x : List S26} {i j : Nat} (h : VoInv a1 l x i j) (hj : j < l.length) (hq : notV a1 l[j] = true) : VoInv a1 l x i (j + 1) := by
 have hx : j < x.length := by have := h.len; omega
 have hlt := h.lt
 refine ⟨h.len, by omega, hj, ?_, ?_⟩
 ·
  rw [h.kept, List.take_succ_eq_append_getElem hj, List.filter_append]
  simp [hq]
 have e := h.rest
 rw [List.drop_eq_getElem_cons hx, List.drop_eq_getElem_cons hj] at e
 exact (List.cons.inj e).2
theorem VoInv.done {a1 : Int} {l x : List S26} {i : Nat} (h : VoInv a1 l x i l.length) : x.take i = l.filter (fun y => !notV a1 y) := by
 have := h.kept
 rwa [List.take_length] at this
end Go.Proofs.Ytbhlmeghbfmgiaa.F

namespace Go.Proofs.Ytbhlmeghbfmgiaa.F
open Go.RowKit Go.Proofs.Ytbhlmeghbfmgiaa.Opened Go.Proofs.YtbhlmeghbfmgiaaW.PrintWords Go.Proofs.YtbhlmeghbfmgiaaW.PrintLast Go.Proofs.YtbhlmeghbfmgiaaW.PrintMore
set_option linter.unusedVariables false
set_option linter.unusedSimpArgs false
def insE (e : Evt) : List Evt → List Evt
  | [] => [e]
  | x :: l => if before x e then x :: insE e l else e :: x :: l
theorem insE_length (e : Evt) : ∀ l : List Evt, (insE e l).length = l.length + 1
  | [] => rfl
  | x :: l => by
    unfold insE
    split
    · simp only [List.length_cons, insE_length e l]
    · rfl
def putSc (l : List Evt) (e : Evt) : List Evt × Bool := if isScoreB (insE e l) = true then (insE e l, true) else (l, false)
theorem putSc_length (l : List Evt) (e : Evt) : (putSc l e).1.length ≤ l.length + 1 := by
  unfold putSc
  split
  · rw [insE_length]; exact Nat.le_refl _
  · exact Nat.le_succ _
theorem putSc_score {l : List Evt} (h : isScoreB l = true) (e : Evt) : isScoreB (putSc l e).1 = true := by
  unfold putSc
  split
  · rename_i h'; exact h'
  · exact h
theorem spec_l8Put.loop (e : Evt) (l : List Evt) (hm : l.length ≤ 2097152) : ∀ (d k n : Nat), l.length - n = d → n ≤ l.length → d < k → spec_l8Put.l0 k l (n : Int) e.f0 e.f1 e.f2 e.f3 = some (l.take n ++ insE e (l.drop n)) := by
  intro d
  induction d with
  | zero =>
    intro k n hd hn hk
    obtain ⟨k, rfl⟩ : ∃ m, k = m + 1 := ⟨k - 1, by omega⟩
    have hl : n = l.length := by omega
    subst hl
    have e3 : (l.take l.length).length = l.length := by simp
    have e4 : l.drop l.length = [] := by simp
    simp only [spec_l8Put.l0]
    rw [if_neg (by omega)]
    simp only [Option.bind_some, List.nil_append, List.length_nil, Int.toNat_natCast]
    rw [e4, if_pos (by omega), if_pos (by omega), if_pos (by omega)]
    rw [if_pos (by simp; omega), if_pos (by simp; omega)]
    simp [insE]
  | succ d ih =>
    intro k n hd hn hk
    obtain ⟨k, rfl⟩ : ∃ m, k = m + 1 := ⟨k - 1, by omega⟩
    have h : n < l.length := by omega
    have e4 : l.drop n = l[n] :: l.drop (n + 1) := List.drop_eq_getElem_cons h
    simp only [spec_l8Put.l0]
    rw [if_pos (by omega), if_pos (by omega), rdT26 l n h, spec_l8Before.ok]
    simp only [Option.bind_some, List.nil_append, List.length_nil, Int.toNat_natCast]
    by_cases c : before l[n] e
    · rw [if_pos (by simpa using c), w1 h (by omega), ih k (n + 1) (by omega) (by omega) (by omega), e4]
      simp only [insE, if_pos c]
      rw [List.take_succ_eq_append_getElem h, List.append_assoc]
      rfl
    · rw [if_neg (by simpa using c), if_pos (by omega), if_pos (by simp; omega), if_pos (by simp; omega), if_pos (by simp; omega), e4]
      simp only [insE, if_neg c]
      simp
theorem spec_l8Put.ok (e : Evt) (l : List Evt) (hm : l.length ≤ 2097152) (k : Nat) (hk : l.length < k) : spec_l8Put.f k l e.f0 e.f1 e.f2 e.f3 = some (insE e l) := by
  have := spec_l8Put.loop e l hm l.length k 0 (by omega) (by omega) hk
  unfold spec_l8Put.f
  simpa using this
theorem spec_PutEvent.ok (l : List Evt) (e : Evt) (hm : l.length ≤ 1048576) (k : Nat) (hk : l.length + 1 < k) : spec_PutEvent.f k l e.f0 e.f1 e.f2 e.f3 = some (putSc l e) := by
  unfold spec_PutEvent.f putSc
  have hl := insE_length e l
  rw [spec_l8Put.ok e l (by omega) k (by omega)]
  simp only [Option.bind_some]
  rw [spec_IsScore.ok _ (by omega) k (by omega)]
  simp only [Option.bind_some, List.nil_append, List.length_nil]
  rw [if_pos (show 0 + l.length < 4398046511104 by omega)]
  split <;> rfl
theorem spec_l8Event.ok (b : List Int) (i h : Int) (hb : b.length ≤ 1048576) (hi : 0 ≤ i) (hi' : i ≤ b.length) : ∃ x0 x1 x2 x3 i' h', spec_l8Event.f b i h = some (x0, x1, x2, x3, i', h') ∧ okE ⟨x0, x1, x2, x3⟩ ∧ 0 ≤ i' ∧ i' ≤ b.length := by
  unfold spec_l8Event.f
  obtain ⟨x1, i1, h1, e1, a1, b1, c1, d1⟩ := spec_l1Below.ok' b i h 20 (by omega) hb hi hi'
  rw [e1]
  simp only [Option.bind_some]
  obtain ⟨x2, i2, h2, e2, a2, b2, c2, d2⟩ := spec_l1Below.ok' b i1 h1 10 (by omega) hb c1 d1
  rw [e2]
  simp only [Option.bind_some]
  obtain ⟨x3, i3, h3, e3, a3, b3, c3, d3⟩ := spec_l1Below.ok' b i2 h2 18 (by omega) hb c2 d2
  rw [e3]
  simp only [Option.bind_some]
  obtain ⟨x4, i4, h4, e4, a4, b4, c4, d4⟩ := spec_l1Below.ok' b i3 h3 3 (by omega) hb c3 d3
  rw [e4]
  simp only [Option.bind_some]
  refine ⟨_, _, _, _, _, _, rfl, ?_, c4, d4⟩
  have w1 : wrap64 (6 * x1) = 6 * x1 := wid (by omega) (by omega)
  have w2 : wrap64 (1 + x2) = 1 + x2 := wid (by omega) (by omega)
  have w3 : wrap64 (3 * (1 + x2)) = 3 * (1 + x2) := wid (by omega) (by omega)
  have w4 : wrap64 (55 + x3) = 55 + x3 := wid (by omega) (by omega)
  have w5 : wrap64 (1 + x4) = 1 + x4 := wid (by omega) (by omega)
  rw [w1, w2, w3, w4, w5]
  unfold okE
  simp only
  omega
theorem spec_l8Draw.loop (b : List Int) (hb : b.length ≤ 1048576) : ∀ (d k : Nat) (acc : List Evt) (i h : Int), 0 ≤ i → i ≤ b.length → acc.length + 2 * d + 2 < k → acc.length + d ≤ 1000 → isScoreB acc = true → ∃ l i' h', spec_l8Draw.l0 k acc (d : Int) b i h = some (l, i', h') ∧ l.length ≤ acc.length + d ∧ isScoreB l = true ∧ 0 ≤ i' ∧ i' ≤ b.length := by
  intro d
  induction d with
  | zero =>
    intro k acc i h hi hi' hk ha hs
    obtain ⟨k, rfl⟩ : ∃ m, k = m + 1 := ⟨k - 1, by omega⟩
    simp only [spec_l8Draw.l0]
    rw [if_neg (by omega)]
    exact ⟨_, _, _, rfl, by omega, hs, hi, hi'⟩
  | succ d ih =>
    intro k acc i h hi hi' hk ha hs
    obtain ⟨k, rfl⟩ : ∃ m, k = m + 1 := ⟨k - 1, by omega⟩
    simp only [spec_l8Draw.l0]
    rw [if_pos (by omega)]
    obtain ⟨x0, x1, x2, x3, i1, h1, e1, g1, c1, d1⟩ := spec_l8Event.ok b i h hb hi hi'
    rw [e1]
    simp only [Option.bind_some]
    have hp : spec_PutEvent.f k acc x0 x1 x2 x3 = some (putSc acc ⟨x0, x1, x2, x3⟩) := spec_PutEvent.ok acc ⟨x0, x1, x2, x3⟩ (by omega) k (by omega)
    rw [hp]
    simp only [Option.bind_some]
    have e : wrap64 (((d + 1 : Nat) : Int) - 1) = (d : Int) := by unfold wrap64; omega
    rw [e]
    have hl := putSc_length acc ⟨x0, x1, x2, x3⟩
    obtain ⟨l, i', h', e4, a4, s4, b4, c4⟩ := ih k (putSc acc ⟨x0, x1, x2, x3⟩).1 i1 h1 c1 d1 (by omega) (by omega) (putSc_score hs _)
    exact ⟨l, i', h', e4, by omega, s4, b4, c4⟩
theorem spec_l8Draw.ok (b : List Int) (hb : b.length ≤ 1048576) (k : Nat) (hk : 40 < k) (i h : Int) (hi : 0 ≤ i) (hi' : i ≤ b.length) : ∃ l i' h', spec_l8Draw.f k b i h = some (l, i', h') ∧ l.length ≤ 12 ∧ isScoreB l = true ∧ 0 ≤ i' ∧ i' ≤ b.length := by
  unfold spec_l8Draw.f
  obtain ⟨x1, i1, h1, e1, a1, b1, c1, d1⟩ := spec_l1Below.ok' b i h 13 (by omega) hb hi hi'
  rw [e1]
  simp only [Option.bind_some]
  obtain ⟨m, rfl⟩ := Int.eq_ofNat_of_zero_le a1
  obtain ⟨l, i', h', e4, a4, s4, b4, c4⟩ := spec_l8Draw.loop b hb m k [] i1 h1 c1 d1 (by simp; omega) (by simp; omega) (by decide)
  exact ⟨l, i', h', e4, by simp at a4; omega, s4, b4, c4⟩
theorem spec_l8Any.ok (b : List Int) (hb : b.length ≤ 1048576) (k : Nat) (hk : 40 < k) (i h : Int) (hi : 0 ≤ i) (hi' : i ≤ b.length) : ∃ l i' h', spec_l8Any.f k b i h = some (l, i', h') ∧ l.length ≤ 13 ∧ 0 ≤ i' ∧ i' ≤ b.length := by
  unfold spec_l8Any.f
  obtain ⟨l, i2, h2, e2, a2, s2, c2, d2⟩ := spec_l8Draw.ok b hb k hk i h hi hi'
  rw [e2]
  simp only [Option.bind_some]
  by_cases h0 : (l.length : Int) = 0
  · rw [if_pos h0]
    exact ⟨_, _, _, rfl, by omega, c2, d2⟩
  · rw [if_neg h0]
    obtain ⟨x3, i3, h3, e3, a3, b3, c3, d3⟩ := spec_l1Below.ok' b i2 h2 l.length (by omega) hb c2 d2
    rw [e3]
    simp only [Option.bind_some]
    obtain ⟨x4, i4, h4, e4, a4, b4, c4, d4⟩ := spec_l1Below.ok' b i3 h3 9 (by omega) hb c3 d3
    rw [e4]
    simp only [Option.bind_some]
    by_cases s0 : x4 = 0
    · rw [if_pos s0]
      obtain ⟨x5, i5, h5, e5, a5, c5, d5⟩ := spec_l1Int.ok b i4 h4 [-1, 2000, 2001] (by simp) hb c4 d4
      rw [e5]
      simp only [Option.bind_some]
      rw [if_pos a3, if_pos b3]
      exact ⟨_, _, _, rfl, by simp; omega, c5, d5⟩
    · rw [if_neg s0]
      by_cases s1 : x4 = 1
      · rw [if_pos s1]
        obtain ⟨x5, i5, h5, e5, a5, c5, d5⟩ := spec_l1Int.ok b i4 h4 [0, 96, 97] (by simp) hb c4 d4
        rw [e5]
        simp only [Option.bind_some]
        rw [if_pos a3, if_pos b3]
        exact ⟨_, _, _, rfl, by simp; omega, c5, d5⟩
      · rw [if_neg s1]
        by_cases s2 : x4 = 2
        · rw [if_pos s2]
          obtain ⟨x5, i5, h5, e5, a5, c5, d5⟩ := spec_l1Int.ok b i4 h4 [20, 108, 109] (by simp) hb c4 d4
          rw [e5]
          simp only [Option.bind_some]
          rw [if_pos a3, if_pos b3]
          exact ⟨_, _, _, rfl, by simp; omega, c5, d5⟩
        · rw [if_neg s2]
          by_cases s3 : x4 = 3
          · rw [if_pos s3]
            obtain ⟨x5, i5, h5, e5, a5, c5, d5⟩ := spec_l1Int.ok b i4 h4 [0, 4, 5] (by simp) hb c4 d4
            rw [e5]
            simp only [Option.bind_some]
            rw [if_pos a3, if_pos b3]
            exact ⟨_, _, _, rfl, by simp; omega, c5, d5⟩
          · rw [if_neg s3]
            by_cases s4 : x4 = 4
            · rw [if_pos s4, if_pos (by omega), if_pos (by omega)]
              exact ⟨_, _, _, rfl, by simp; omega, c4, d4⟩
            · rw [if_neg s4]
              exact ⟨_, _, _, rfl, by omega, c4, d4⟩
theorem spec_l1Once.ok (b : List Int) (i h n : Int) (hn : 0 < n) (hb : b.length ≤ 1048576) (hi : 0 ≤ i) (hi' : i ≤ b.length) : ∃ q i' h', spec_l1Once.f b i h n = some (q, i', h') ∧ 0 ≤ i' ∧ i' ≤ b.length := by
  unfold spec_l1Once.f
  obtain ⟨x, i', h', e, a1, a2, a3, a4⟩ := spec_l1Below.ok' b i h n hn hb hi hi'
  rw [e]
  exact ⟨_, _, _, rfl, a3, a4⟩
theorem spec_l8Tune.loop (b : List Int) (hb : b.length ≤ 1048576) (v : Int) : ∀ (d k : Nat) (acc : List Evt) (a i h : Int), 0 ≤ i → i ≤ b.length → acc.length + 2 * d + 2 < k → acc.length + d ≤ 1000 → isScoreB acc = true → ∃ l i' h', spec_l8Tune.l0 k v acc a (d : Int) b i h = some (l, i', h') ∧ l.length ≤ acc.length + d ∧ isScoreB l = true ∧ 0 ≤ i' ∧ i' ≤ b.length := by
  intro d
  induction d with
  | zero =>
    intro k acc a i h hi hi' hk ha hs
    obtain ⟨k, rfl⟩ : ∃ m, k = m + 1 := ⟨k - 1, by omega⟩
    simp only [spec_l8Tune.l0]
    rw [if_neg (by omega)]
    exact ⟨_, _, _, rfl, by omega, hs, hi, hi'⟩
  | succ d ih =>
    intro k acc a i h hi hi' hk ha hs
    obtain ⟨k, rfl⟩ : ∃ m, k = m + 1 := ⟨k - 1, by omega⟩
    simp only [spec_l8Tune.l0]
    rw [if_pos (by omega)]
    obtain ⟨x1, i1, h1, e1, a1, b1, c1, d1⟩ := spec_l1Below.ok' b i h 3 (by omega) hb hi hi'
    rw [e1]
    simp only [Option.bind_some]
    obtain ⟨x2, i2, h2, e2, a2, b2, c2, d2⟩ := spec_l1Below.ok' b i1 h1 8 (by omega) hb c1 d1
    rw [e2]
    simp only [Option.bind_some]
    obtain ⟨q, i3, h3, e3, c3, d3⟩ := spec_l1Once.ok b i2 h2 5 (by omega) hb c2 d2
    rw [e3]
    simp only [Option.bind_some]
    have e : wrap64 (((d + 1 : Nat) : Int) - 1) = (d : Int) := by unfold wrap64; omega
    rw [e]
    have hp : ∀ x0 x1 x2 x3, spec_PutEvent.f k acc x0 x1 x2 x3 = some (putSc acc ⟨x0, x1, x2, x3⟩) := fun x0 x1 x2 x3 => spec_PutEvent.ok acc ⟨x0, x1, x2, x3⟩ (by omega) k (by omega)
    simp only [hp, Option.bind_some]
    have fin : ∀ (e : Evt) (a : Int), ∃ l i' h', spec_l8Tune.l0 k v (putSc acc e).1 a (d : Int) b i3 h3 = some (l, i', h') ∧ l.length ≤ acc.length + (d + 1) ∧ isScoreB l = true ∧ 0 ≤ i' ∧ i' ≤ b.length := by
      intro e a
      have hl := putSc_length acc e
      obtain ⟨l, i', h', e4, a4, s4, b4, c4⟩ := ih k (putSc acc e).1 a i3 h3 c3 d3 (by omega) (by omega) (putSc_score hs _)
      exact ⟨l, i', h', e4, by omega, s4, b4, c4⟩
    split
    · exact fin _ _
    · exact fin _ _
theorem spec_l8Tune.ok (b : List Int) (hb : b.length ≤ 1048576) (k : Nat) (hk : 40 < k) (v i h : Int) (hi : 0 ≤ i) (hi' : i ≤ b.length) : ∃ l i' h', spec_l8Tune.f k b i h v 9 = some (l, i', h') ∧ l.length ≤ 8 ∧ isScoreB l = true ∧ 0 ≤ i' ∧ i' ≤ b.length := by
  unfold spec_l8Tune.f
  obtain ⟨x1, i1, h1, e1, a1, b1, c1, d1⟩ := spec_l1Below.ok' b i h 9 (by omega) hb hi hi'
  rw [e1]
  simp only [Option.bind_some]
  obtain ⟨m, rfl⟩ := Int.eq_ofNat_of_zero_le a1
  obtain ⟨l, i', h', e4, a4, s4, b4, c4⟩ := spec_l8Tune.loop b hb v m k [] 0 i1 h1 c1 d1 (by simp; omega) (by simp; omega) (by decide)
  exact ⟨l, i', h', e4, by simp at a4; omega, s4, b4, c4⟩
theorem spec_l13Score.loop (v : List Evt) (hv : v.length ≤ 1000) (b : List Int) (i h : Int) : ∀ (d k : Nat) (acc : List Evt) (n : Nat), v.length - n ≤ d → acc.length + 2 * d + 2 < k → acc.length + d ≤ 2000 → isScoreB acc = true → ∃ l, spec_l13Score.l0 k acc v (n : Int) b i h = some (l, i, h) ∧ l.length ≤ acc.length + d ∧ isScoreB l = true := by
  intro d
  induction d with
  | zero =>
    intro k acc n hd hk ha hs
    obtain ⟨k, rfl⟩ : ∃ m, k = m + 1 := ⟨k - 1, by omega⟩
    simp only [spec_l13Score.l0]
    rw [if_neg (by omega)]
    exact ⟨_, rfl, by omega, hs⟩
  | succ d ih =>
    intro k acc n hd hk ha hs
    obtain ⟨k, rfl⟩ : ∃ m, k = m + 1 := ⟨k - 1, by omega⟩
    simp only [spec_l13Score.l0]
    by_cases hn : n < v.length
    · rw [if_pos (by omega), if_pos (by omega), rdT26 v n hn, spec_PutEvent.ok acc v[n] (by omega) k (by omega), w1 hn (by omega)]
      simp only [Option.bind_some]
      have hl := putSc_length acc v[n]
      obtain ⟨l, e, h1, h2⟩ := ih k (putSc acc v[n]).1 (n + 1) (by omega) (by omega) (by omega) (putSc_score hs _)
      exact ⟨l, e, by omega, h2⟩
    · rw [if_neg (by omega)]
      exact ⟨_, rfl, by omega, hs⟩
theorem spec_l13Score.ok (b : List Int) (hb : b.length ≤ 1048576) (k : Nat) (hk : 60 < k) (i h : Int) (hi : 0 ≤ i) (hi' : i ≤ b.length) : ∃ l i' h', spec_l13Score.f k b i h = some (l, i', h') ∧ l.length ≤ 16 ∧ isScoreB l = true ∧ 0 ≤ i' ∧ i' ≤ b.length := by
  unfold spec_l13Score.f
  obtain ⟨l, i1, h1, e1, a1, s1, c1, d1⟩ := spec_l8Tune.ok b hb k (by omega) 1 i h hi hi'
  rw [e1]
  simp only [Option.bind_some]
  obtain ⟨v, i2, h2, e2, a2, s2, c2, d2⟩ := spec_l8Tune.ok b hb k (by omega) 2 i1 h1 c1 d1
  rw [e2]
  simp only [Option.bind_some]
  obtain ⟨r, e3, a3, s3⟩ := spec_l13Score.loop v (by omega) b i2 h2 v.length k l 0 (by omega) (by omega) (by omega) s1
  exact ⟨r, i2, h2, e3, by omega, s3, c2, d2⟩
abbrev Tmp := S151
def okT : Option Tmp → Tmp → Prop
  | none, e => (20 ≤ e.f1 ∧ e.f1 ≤ 300) ∧ (0 ≤ e.f0 ∧ e.f0 ≤ 2000) ∧ e.f0 = 0
  | some q, e => (20 ≤ e.f1 ∧ e.f1 ≤ 300) ∧ (0 ≤ e.f0 ∧ e.f0 ≤ 2000) ∧ q.f0 < e.f0
instance (p : Option Tmp) (e : Tmp) : Decidable (okT p e) := by cases p <;> (unfold okT; infer_instance)
def tpB : Option Tmp → List Tmp → Bool
  | _, [] => true
  | p, e :: l => decide (okT p e) && tpB (some e) l
def isTempoB (l : List Tmp) : Bool := tpB none l && decide (1 ≤ (l.length : Int) ∧ (l.length : Int) ≤ 8)
def prevT (l : List Tmp) (n : Nat) : Option Tmp := if n = 0 then none else l[n - 1]?
theorem prevT_next (l : List Tmp) (n : Nat) (h : n < l.length) : prevT l (n + 1) = some l[n] := by simp [prevT, h]
theorem prevT_pos (l : List Tmp) (n : Nat) (h0 : n ≠ 0) (h : n - 1 < l.length) : prevT l n = some l[n - 1] := by simp [prevT, h0, h]
theorem spec_IsTempo.loop (l : List Tmp) (hm : l.length ≤ 9223372036854775807) : ∀ (d k n : Nat), l.length - n ≤ d → d < k → spec_IsTempo.l0 k l (n : Int) = some (tpB (prevT l n) (l.drop n) && decide (1 ≤ (l.length : Int) ∧ (l.length : Int) ≤ 8)) := by
  intro d
  induction d with
  | zero =>
    intro k n hd hk
    obtain ⟨k, rfl⟩ : ∃ m, k = m + 1 := ⟨k - 1, by omega⟩
    simp only [spec_IsTempo.l0, spec_l1In.ok, Option.bind_some]
    rw [if_neg (by omega), List.drop_of_length_le (by omega)]
    simp [tpB]
  | succ d ih =>
    intro k n hd hk
    obtain ⟨k, rfl⟩ : ∃ m, k = m + 1 := ⟨k - 1, by omega⟩
    by_cases h : n < l.length
    · simp only [spec_IsTempo.l0, spec_l1In.ok, Option.bind_some]
      rw [if_pos (by omega), if_pos (by omega), rdT151 l n h, w1 h hm, List.drop_eq_getElem_cons h]
      have ih' := ih k (n + 1) (by omega) (by omega)
      rw [prevT_next l n h] at ih'
      by_cases c1 : 20 ≤ l[n].f1 ∧ l[n].f1 ≤ 300
      · by_cases c2 : 0 ≤ l[n].f0 ∧ l[n].f0 ≤ 2000
        · rw [if_pos (by simpa using c1), if_pos (by simpa using c2)]
          by_cases c3 : n = 0
          · subst c3
            by_cases c4 : l[0].f0 = 0
            · rw [if_pos (by omega), if_pos c4, if_neg (by omega), ih']
              simp [prevT, tpB, okT, c1, c4]
            · rw [if_pos (by omega), if_neg c4]
              simp [prevT, tpB, okT, c4]
          · have e : wrap64 ((n : Int) - 1) = ((n - 1 : Nat) : Int) := by unfold wrap64; omega
            rw [if_neg (by omega), if_pos (by omega), e, if_pos (by omega), if_pos (by omega), rdT151 l (n - 1) (by omega), prevT_pos l n c3 (by omega), ih']
            by_cases c4 : l[n - 1].f0 ≥ l[n].f0
            · rw [if_pos c4]
              have : ¬ l[n - 1].f0 < l[n].f0 := by omega
              simp [tpB, okT, this]
            · rw [if_neg c4]
              have : l[n - 1].f0 < l[n].f0 := by omega
              simp [tpB, okT, c1, c2, this]
        · rw [if_pos (by simpa using c1), if_neg (by simpa using c2)]
          cases prevT l n <;> simp [tpB, okT, c2]
      · rw [if_neg (by simpa using c1)]
        cases prevT l n <;> simp [tpB, okT, c1]
    · simp only [spec_IsTempo.l0, spec_l1In.ok, Option.bind_some]
      rw [if_neg (by omega), List.drop_of_length_le (by omega)]
      simp [tpB]
theorem spec_IsTempo.ok (l : List Tmp) (hm : l.length ≤ 9223372036854775807) (k : Nat) (hk : l.length < k) : spec_IsTempo.f k l = some (isTempoB l) := by
  unfold spec_IsTempo.f
  exact spec_IsTempo.loop l hm l.length k 0 (by omega) hk
theorem impl_IsTempo.loop (l : List Tmp) (hm : l.length ≤ 9223372036854775807) : ∀ (d k n : Nat), l.length - n ≤ d → d < k → (∀ q, prevT l n = some q → 0 ≤ q.f0) → impl_IsTempo.l0 k l l l.length (n : Int) = some (tpB (prevT l n) (l.drop n) && decide (1 ≤ (l.length : Int) ∧ (l.length : Int) ≤ 8)) := by
  intro d
  induction d with
  | zero =>
    intro k n hd hk hp
    obtain ⟨k, rfl⟩ : ∃ m, k = m + 1 := ⟨k - 1, by omega⟩
    simp only [impl_IsTempo.l0, impl_InRange.ok, Option.bind_some]
    rw [if_neg (by omega), List.drop_of_length_le (by omega)]
    simp [tpB]
  | succ d ih =>
    intro k n hd hk hp
    obtain ⟨k, rfl⟩ : ∃ m, k = m + 1 := ⟨k - 1, by omega⟩
    by_cases h : n < l.length
    · simp only [impl_IsTempo.l0, impl_InRange.ok, Option.bind_some]
      rw [if_pos (by omega), if_pos (by omega), if_pos (by omega), rdT151 l n h, w1 h hm, List.drop_eq_getElem_cons h]
      have ih' := ih k (n + 1) (by omega) (by omega)
      rw [prevT_next l n h] at ih'
      by_cases c3 : n = 0
      · subst c3
        rw [if_pos (by omega)]
        by_cases c4 : l[0].f0 = 0
        · rw [if_pos c4, if_neg (by omega), if_neg (by omega)]
          by_cases c1 : (20 : Int) ≤ l[0].f1 ∧ l[0].f1 ≤ (300 : Int)
          · rw [if_pos (by simpa using c1), ih' (fun q hq => by obtain rfl := Option.some.inj hq; omega)]
            simp [prevT, tpB, okT, c1, c4]
          · rw [if_neg (by simpa using c1)]
            simp [prevT, tpB, okT, c1]
        · rw [if_neg c4]
          simp [prevT, tpB, okT, c4]
      · have e : wrap64 ((n : Int) - 1) = ((n - 1 : Nat) : Int) := by unfold wrap64; omega
        rw [if_neg (by omega), if_pos (by omega), e, if_pos (by omega), if_pos (by omega), rdT151 l (n - 1) (by omega), prevT_pos l n c3 (by omega)]
        have hq := hp _ (prevT_pos l n c3 (by omega))
        by_cases c4 : l[n - 1].f0 ≥ l[n].f0
        · rw [if_pos c4]
          have : ¬ l[n - 1].f0 < l[n].f0 := by omega
          simp [tpB, okT, this]
        · have c5 : l[n - 1].f0 < l[n].f0 := by omega
          rw [if_neg c4]
          by_cases c6 : l[n].f0 > 2000
          · rw [if_pos c6]
            have : ¬ (0 ≤ l[n].f0 ∧ l[n].f0 ≤ 2000) := by omega
            simp [tpB, okT, this]
          · rw [if_neg c6]
            by_cases c1 : 20 ≤ l[n].f1 ∧ l[n].f1 ≤ 300
            · rw [if_pos (by simpa using c1), ih' (fun q hq' => by obtain rfl := Option.some.inj hq'; omega)]
              have c2 : 0 ≤ l[n].f0 ∧ l[n].f0 ≤ 2000 := by omega
              simp [tpB, okT, c1, c2, c5]
            · rw [if_neg (by simpa using c1)]
              simp [tpB, okT, c1]
    · simp only [impl_IsTempo.l0, impl_InRange.ok, Option.bind_some]
      rw [if_neg (by omega), List.drop_of_length_le (by omega)]
      simp [tpB]
theorem impl_IsTempo.ok (l : List Tmp) (hm : l.length ≤ 9223372036854775807) (k : Nat) (hk : l.length < k) : impl_IsTempo.f k l = some (isTempoB l) := by
  unfold impl_IsTempo.f
  exact impl_IsTempo.loop l hm l.length k 0 (by omega) hk (fun q hq => by simp [prevT] at hq)
end Go.Proofs.Ytbhlmeghbfmgiaa.F
