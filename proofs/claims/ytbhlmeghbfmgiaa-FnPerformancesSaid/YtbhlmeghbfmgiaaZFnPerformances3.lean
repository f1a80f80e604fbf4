/- FnPerformances, part 3 of 7: texts of the claim, joined into one file. -/
import Derived.Test.YtbhlmeghbfmgiaaZFnPerformances2
import Derived.Shelf.SlSortCmp.NoneTotal
import Derived.Shelf.Sort.Plain
import Derived.Shelf.Slices.CompactI
import Derived.Shelf.Slices.Delete
import Derived.Shelf.Spec.SlicesInsertGrow
import Derived.Shelf.Slices.In.SortNone
import Derived.Test.YtbhlmeghbfmgiaaProg

namespace Go.Proofs.Ytbhlmeghbfmgiaa.F
open Go.RowKit Go.Proofs.YtbhlmeghbfmgiaaW.PrintWords Go.Proofs.YtbhlmeghbfmgiaaW.PrintLast Go.Proofs.YtbhlmeghbfmgiaaW.PrintMore
attribute [local go_sem] max2_int min2_int max_two min_two max_three min_three max_four min_four
set_option linter.unusedVariables false
set_option linter.unusedSimpArgs false
def spec_l8Any.f (k : Nat) (s0_0 : List Int) (s0_1 : Int) (s0_2 : Int) : Option ((List (S26)) × Int × Int) := (spec_l8Draw.f k s0_0 s0_1 s0_2).bind fun bt222 => (if (bt222.1.length : Int) = 0 then (some (bt222.1, bt222.2.1, bt222.2.2)) else ((spec_l1Below.f s0_0 bt222.2.1 bt222.2.2 (bt222.1.length : Int)).bind fun bt227 => ((spec_l1Below.f s0_0 bt227.2.1 bt227.2.2 9).bind fun bt230 => (if bt230.1 = 0 then ((spec_l1Int.f s0_0 bt230.2.1 bt230.2.2 (([(-1), 2000, 2001] : List Int))).bind fun bt236 => (if 0 ≤ bt227.1 then (if bt227.1 < (bt222.1.length : Int) then (some ((bt222.1.set (bt227.1 : Int).toNat (⟨bt236.1, (rd_T26 bt222.1 bt227.1).f1, (rd_T26 bt222.1 bt227.1).f2, (rd_T26 bt222.1 bt227.1).f3⟩ : S26)), bt236.2.1, bt236.2.2)) else (none)) else (none))) else (if bt230.1 = 1 then ((spec_l1Int.f s0_0 bt230.2.1 bt230.2.2 (([0, 96, 97] : List Int))).bind fun bt243 => (if 0 ≤ bt227.1 then (if bt227.1 < (bt222.1.length : Int) then (some ((bt222.1.set (bt227.1 : Int).toNat (⟨(rd_T26 bt222.1 bt227.1).f0, bt243.1, (rd_T26 bt222.1 bt227.1).f2, (rd_T26 bt222.1 bt227.1).f3⟩ : S26)), bt243.2.1, bt243.2.2)) else (none)) else (none))) else (if bt230.1 = 2 then ((spec_l1Int.f s0_0 bt230.2.1 bt230.2.2 (([20, 108, 109] : List Int))).bind fun bt250 => (if 0 ≤ bt227.1 then (if bt227.1 < (bt222.1.length : Int) then (some ((bt222.1.set (bt227.1 : Int).toNat (⟨(rd_T26 bt222.1 bt227.1).f0, (rd_T26 bt222.1 bt227.1).f1, bt250.1, (rd_T26 bt222.1 bt227.1).f3⟩ : S26)), bt250.2.1, bt250.2.2)) else (none)) else (none))) else (if bt230.1 = 3 then ((spec_l1Int.f s0_0 bt230.2.1 bt230.2.2 (([0, 4, 5] : List Int))).bind fun bt257 => (if 0 ≤ bt227.1 then (if bt227.1 < (bt222.1.length : Int) then (some ((bt222.1.set (bt227.1 : Int).toNat (⟨(rd_T26 bt222.1 bt227.1).f0, (rd_T26 bt222.1 bt227.1).f1, (rd_T26 bt222.1 bt227.1).f2, bt257.1⟩ : S26)), bt257.2.1, bt257.2.2)) else (none)) else (none))) else (if bt230.1 = 4 then (if 0 < (bt222.1.length : Int) then (if bt222.1.length < 4398046511104 then (some ((bt222.1 ++ [(⟨(rd_T26 bt222.1 0).f0, (rd_T26 bt222.1 0).f1, (rd_T26 bt222.1 0).f2, (rd_T26 bt222.1 0).f3⟩ : S26)]), bt230.2.1, bt230.2.2)) else (none)) else (none)) else (some (bt222.1, bt230.2.1, bt230.2.2))))))))))
set_option maxHeartbeats 8000000 in
set_option maxRecDepth 100000 in
theorem spec_l8Any.calls (k : Nat) (g : Nat) (s0_0 : List Int) (s0_1 : Int) (s0_2 : Int) (r1 : List (S26)) (r2 : Int) (r3 : Int) (w0 w : World) (hI : IsS157 w0 w g s0_0 s0_1 s0_2) (hB : Below w0.heap.size w0 w) (h : spec_l8Any.f k s0_0 s0_1 s0_2 = some (r1, r2, r3)) :
  Calls Try.prog 75 #[.pointer (some ⟨g, 0, none⟩)] w fun e w' => ∃ v0_ : Value, e = .returned (v0_) ∧ Kd.R k26 26 w' w.heap.size (fun _ => True) v0_ r1 ∧ IsS157 w0 w' g s0_0 r2 r3 ∧ Below w0.heap.size w0 w' ∧ KeepBut w w' g none := by
 have hu26 := Try.underlying26
 have HI0 := sk_' hI
 have HK := sk_' (KeepBut.refl w g none)
 have HL := sk_' hB.size
 clear hI
 have HW0 := sk_' hB.size
 have HB := sk_' hB
 clear hB
 have H : ((spec_l8Draw.f k s0_0 s0_1 s0_2).bind fun bt222 => (if (bt222.1.length : Int) = 0 then (some (bt222.1, bt222.2.1, bt222.2.2)) else ((spec_l1Below.f s0_0 bt222.2.1 bt222.2.2 (bt222.1.length : Int)).bind fun bt227 => ((spec_l1Below.f s0_0 bt227.2.1 bt227.2.2 9).bind fun bt230 => (if bt230.1 = 0 then ((spec_l1Int.f s0_0 bt230.2.1 bt230.2.2 (([(-1), 2000, 2001] : List Int))).bind fun bt236 => (if 0 ≤ bt227.1 then (if bt227.1 < (bt222.1.length : Int) then (some ((bt222.1.set (bt227.1 : Int).toNat (⟨bt236.1, (rd_T26 bt222.1 bt227.1).f1, (rd_T26 bt222.1 bt227.1).f2, (rd_T26 bt222.1 bt227.1).f3⟩ : S26)), bt236.2.1, bt236.2.2)) else (none)) else (none))) else (if bt230.1 = 1 then ((spec_l1Int.f s0_0 bt230.2.1 bt230.2.2 (([0, 96, 97] : List Int))).bind fun bt243 => (if 0 ≤ bt227.1 then (if bt227.1 < (bt222.1.length : Int) then (some ((bt222.1.set (bt227.1 : Int).toNat (⟨(rd_T26 bt222.1 bt227.1).f0, bt243.1, (rd_T26 bt222.1 bt227.1).f2, (rd_T26 bt222.1 bt227.1).f3⟩ : S26)), bt243.2.1, bt243.2.2)) else (none)) else (none))) else (if bt230.1 = 2 then ((spec_l1Int.f s0_0 bt230.2.1 bt230.2.2 (([20, 108, 109] : List Int))).bind fun bt250 => (if 0 ≤ bt227.1 then (if bt227.1 < (bt222.1.length : Int) then (some ((bt222.1.set (bt227.1 : Int).toNat (⟨(rd_T26 bt222.1 bt227.1).f0, (rd_T26 bt222.1 bt227.1).f1, bt250.1, (rd_T26 bt222.1 bt227.1).f3⟩ : S26)), bt250.2.1, bt250.2.2)) else (none)) else (none))) else (if bt230.1 = 3 then ((spec_l1Int.f s0_0 bt230.2.1 bt230.2.2 (([0, 4, 5] : List Int))).bind fun bt257 => (if 0 ≤ bt227.1 then (if bt227.1 < (bt222.1.length : Int) then (some ((bt222.1.set (bt227.1 : Int).toNat (⟨(rd_T26 bt222.1 bt227.1).f0, (rd_T26 bt222.1 bt227.1).f1, (rd_T26 bt222.1 bt227.1).f2, bt257.1⟩ : S26)), bt257.2.1, bt257.2.2)) else (none)) else (none))) else (if bt230.1 = 4 then (if 0 < (bt222.1.length : Int) then (if bt222.1.length < 4398046511104 then (some ((bt222.1 ++ [(⟨(rd_T26 bt222.1 0).f0, (rd_T26 bt222.1 0).f1, (rd_T26 bt222.1 0).f2, (rd_T26 bt222.1 0).f3⟩ : S26)]), bt230.2.1, bt230.2.2)) else (none)) else (none)) else (some (bt222.1, bt230.2.1, bt230.2.2))))))))))) = some (r1, r2, r3) := h
 clear h
 replace H := bs_' H
 obtain ⟨⟨t222, t225, t226⟩, A20, H⟩ := H
 try dsimp only at H
 have A2 := sk_' A20
 clear A20
 by_cases c3 : (t222.length : Int) = 0
 ·
  rw [if_pos c3] at H
  have c3b0 : ((t222.length : Int) == 0) = true := beq_iff_eq.mpr c3
  have c3b1 : ((t222.length : Int) != 0) = false := bne_eq_false_iff_eq.mpr c3
  clear c3
  simp only [Option.some.injEq, Prod.mk.injEq] at H
  obtain ⟨rfl, rfl, rfl⟩ := H
  go_enter Try.func75, Try.ntmps75
  go_wp2_with (first | ((with_reducible refine xj_' (f := 129) rfl ?_); refine goesL_ (some 6) rfl rfl Try.func129 (by kernel_rfl) rfl #[.pointer (some ⟨g, 0, none⟩)] rfl (by (try simp only [xm_', xc_', xn_']); first | done | rfl | (simp only [xd_', xt_']; rfl)) ?_; (with_reducible refine (spec_l8Draw.calls k g s0_0 s0_1 s0_2 t222 t225 t226 w0 _ ?side1 ?side2 A2.out).mono ?_); (case side1 => repeat (first | (with_reducible first | exact HI0.out | apply IsS157.alloc | apply IsS157.drewN | apply IsS157.drew | apply IsS157.set_1 | apply IsS157.set_2) | exact HI0.out)); (case side2 => repeat (first | (with_reducible first | exact HB.out | apply pa_' | apply pn_' | apply pd_' | refine pt_' ?_ (IsS157.ge HI0.out)) | exact HB.out)); rintro e w4 ⟨v223, rfl, ho0, hi, hb, hk⟩; refine ⟨_, rfl, ?_⟩; have n0_ := sk_' (Kd.R_lower ho0 (keep_size (w := w) (g := g) (row := none) (by repeat (first | (with_reducible first | exact HK.out | apply KeepBut.set_ | apply keep_drewN | apply keep_drew | apply keep_alloc) | exact HK.out)))); have n1_ := sk_' (KeepBut.trans (by repeat (first | (with_reducible first | exact HK.out | apply KeepBut.set_ | apply keep_drewN | apply keep_drew | apply keep_alloc) | exact HK.out)) hk (.inl rfl)); have n2_ := sk_' (hb); have n3_ := sk_' (hi); clear HK; clear HB; clear HI0; have HO224 := n0_; have HK := n1_; have HB := n2_; have HI0 := n3_; clear n0_ n1_ n2_ n3_; (try clear hb); (try clear hb2); (try clear hk); (try clear hi); (try clear ho0); obtain ⟨Ao5, co5, eo5⟩ := Kd.R_slice HO224.out; subst eo5))
  go_ret
  exact ⟨_, by first | rfl | (simp [errW_none, errW_some] <;> rfl) | (simp [*, errW_none, errW_some] <;> rfl), by (with_reducible repeat (first | apply ra_' | apply rn_' | apply rd1_')); exact HO224.out, by repeat (first | (with_reducible first | exact HI0.out | apply IsS157.alloc | apply IsS157.drewN | apply IsS157.drew | apply IsS157.set_1 | apply IsS157.set_2) | exact HI0.out), by repeat (first | (with_reducible first | exact HB.out | apply pa_' | apply pn_' | apply pd_' | refine pt_' ?_ (IsS157.ge HI0.out)) | exact HB.out), by repeat (first | (with_reducible first | exact HK.out | apply KeepBut.set_ | apply keep_drewN | apply keep_drew | apply keep_alloc) | exact HK.out)⟩
 rw [if_neg c3] at H
 have c3b0 : ((t222.length : Int) == 0) = false := beq_eq_false_iff_ne.mpr c3
 have c3b1 : ((t222.length : Int) != 0) = true := bne_iff_ne.mpr c3
 have c3b2 : ¬ (t222 = []) := fun h_ => c3 (by rw [h_]; rfl)
 replace H := bs_' H
 obtain ⟨⟨t227, t228, t229⟩, A60, H⟩ := H
 try dsimp only at H
 have A6 := sk_' A60
 clear A60
 replace H := bs_' H
 obtain ⟨⟨t230, t231, t232⟩, A70, H⟩ := H
 try dsimp only at H
 have A7 := sk_' A70
 clear A70
 by_cases c8 : t230 = 0
 ·
  rw [if_pos c8] at H
  have c8b0 : (t230 == 0) = true := beq_iff_eq.mpr c8
  have c8b1 : (t230 != 0) = false := bne_eq_false_iff_eq.mpr c8
  clear c8
  obtain ⟨y233, hy233⟩ : ∃ y_ : List Int, y_ = (([(-1), 2000, 2001] : List Int)) := ⟨_, rfl⟩
  replace H : ((spec_l1Int.f s0_0 t231 t232 y233).bind fun bt236 => (if 0 ≤ t227 then (if t227 < (t222.length : Int) then (some ((t222.set (t227 : Int).toNat (⟨bt236.1, (rd_T26 t222 t227).f1, (rd_T26 t222 t227).f2, (rd_T26 t222 t227).f3⟩ : S26)), bt236.2.1, bt236.2.2)) else (none)) else (none))) = some (r1, r2, r3) := by first | (rw [hy233]; with_reducible exact H) | (have H2_ := (Option.bind_some _ _).symm.trans H; rw [hy233]; with_reducible exact H2_) | (have H2_ := (Option.bind_some _ _).symm.trans H; with_reducible exact H2_) | with_reducible exact H | (rw [hy233]; exact H) | exact H
  have Ny233 := sk_' hy233
  clear hy233
  replace H := bs_' H
  obtain ⟨⟨t236, t237, t238⟩, A90, H⟩ := H
  try dsimp only at H
  have A9 := sk_' A90
  clear A90
  by_cases c10 : 0 ≤ t227
  ·
   rw [if_pos c10] at H
   have c10b0 : decide (0 ≤ t227) = true := decide_eq_true c10
   clear c10
   by_cases c11 : t227 < (t222.length : Int)
   ·
    rw [if_pos c11] at H
    have c11b0 : decide (t227 < (t222.length : Int)) = true := decide_eq_true c11
    clear c11
    obtain ⟨y239, hy239⟩ : ∃ y_ : List (S26), y_ = (t222.set (t227 : Int).toNat (⟨t236, (rd_T26 t222 t227).f1, (rd_T26 t222 t227).f2, (rd_T26 t222 t227).f3⟩ : S26)) := ⟨_, rfl⟩
    replace H : (some (y239, t237, t238)) = some (r1, r2, r3) := by first | (rw [hy239]; with_reducible exact H) | (have H2_ := (Option.bind_some _ _).symm.trans H; rw [hy239]; with_reducible exact H2_) | (have H2_ := (Option.bind_some _ _).symm.trans H; with_reducible exact H2_) | with_reducible exact H | (rw [hy239]; exact H) | exact H
    have Ny239 := sk_' hy239
    clear hy239
    simp only [Option.some.injEq, Prod.mk.injEq] at H
    obtain ⟨rfl, rfl, rfl⟩ := H
    go_enter Try.func75, Try.ntmps75
    go_wp2_with (first | ((with_reducible refine xj_' (f := 129) rfl ?_); refine goesL_ (some 6) rfl rfl Try.func129 (by kernel_rfl) rfl #[.pointer (some ⟨g, 0, none⟩)] rfl (by (try simp only [xm_', xc_', xn_']); first | done | rfl | (simp only [xd_', xt_']; rfl)) ?_; (with_reducible refine (spec_l8Draw.calls k g s0_0 s0_1 s0_2 t222 t225 t226 w0 _ ?side1 ?side2 A2.out).mono ?_); (case side1 => repeat (first | (with_reducible first | exact HI0.out | apply IsS157.alloc | apply IsS157.drewN | apply IsS157.drew | apply IsS157.set_1 | apply IsS157.set_2) | exact HI0.out)); (case side2 => repeat (first | (with_reducible first | exact HB.out | apply pa_' | apply pn_' | apply pd_' | refine pt_' ?_ (IsS157.ge HI0.out)) | exact HB.out)); rintro e w13 ⟨v223, rfl, ho0, hi, hb, hk⟩; refine ⟨_, rfl, ?_⟩; have n0_ := sk_' (Kd.R_lower ho0 (keep_size (w := w) (g := g) (row := none) (by repeat (first | (with_reducible first | exact HK.out | apply KeepBut.set_ | apply keep_drewN | apply keep_drew | apply keep_alloc) | exact HK.out)))); have n1_ := sk_' (KeepBut.trans (by repeat (first | (with_reducible first | exact HK.out | apply KeepBut.set_ | apply keep_drewN | apply keep_drew | apply keep_alloc) | exact HK.out)) hk (.inl rfl)); have n2_ := sk_' (hb); have n3_ := sk_' (hi); clear HK; clear HB; clear HI0; have HO224 := n0_; have HK := n1_; have HB := n2_; have HI0 := n3_; clear n0_ n1_ n2_ n3_; (try clear hb); (try clear hb2); (try clear hk); (try clear hi); (try clear ho0); obtain ⟨Ao14, co14, eo14⟩ := Kd.R_slice HO224.out; subst eo14) | ((with_reducible refine xj_' (f := 91) rfl ?_); refine goesL_ (some 14) rfl rfl Try.func91 (by kernel_rfl) rfl #[.pointer (some ⟨g, 0, none⟩), .int .i64 (t222.length : Int)] rfl (by (try simp only [xm_', xc_', xn_']); first | done | rfl | (simp only [xd_', xt_']; rfl)) ?_; (with_reducible refine (spec_l1Below.calls g s0_0 t225 t226 (t222.length : Int) t227 t228 t229 w0 _ ?side1 ?side2 A6.out).mono ?_); (case side1 => repeat (first | (with_reducible first | exact HI0.out | apply IsS157.alloc | apply IsS157.drewN | apply IsS157.drew | apply IsS157.set_1 | apply IsS157.set_2) | exact HI0.out)); (case side2 => repeat (first | (with_reducible first | exact HB.out | apply pa_' | apply pn_' | apply pd_' | refine pt_' ?_ (IsS157.ge HI0.out)) | exact HB.out)); rintro e w15 ⟨rfl, hi, hb, hk⟩; refine ⟨_, rfl, ?_⟩; have n0_ := sk_' (xi_' (Kd.R_keep (IsS157.apart (show IsS157 w0 _ g s0_0 t225 t226 from by repeat (first | (with_reducible first | exact HI0.out | apply IsS157.alloc | apply IsS157.drewN | apply IsS157.drew | apply IsS157.set_1 | apply IsS157.set_2) | exact HI0.out)) (by (with_reducible repeat (first | apply ra_' | apply rn_' | apply rd1_')); exact HO224.out) (by decide)) hk (fun _ h => h.2)) (fun _ h => h.1)); have n1_ := sk_' (KeepBut.trans (by repeat (first | (with_reducible first | exact HK.out | apply KeepBut.set_ | apply keep_drewN | apply keep_drew | apply keep_alloc) | exact HK.out)) hk (.inl rfl)); have n2_ := sk_' (hb); have n3_ := sk_' (hi); clear HO224; clear HK; clear HB; clear HI0; have HO224 := n0_; have HK := n1_; have HB := n2_; have HI0 := n3_; clear n0_ n1_ n2_ n3_; (try clear hb); (try clear hb2); (try clear hk); (try clear hi)) | ((with_reducible refine xj_' (f := 91) rfl ?_); refine goesL_ (some 16) rfl rfl Try.func91 (by kernel_rfl) rfl #[.pointer (some ⟨g, 0, none⟩), .int .i64 9] rfl (by (try simp only [xm_', xc_', xn_']); first | done | rfl | (simp only [xd_', xt_']; rfl)) ?_; (with_reducible refine (spec_l1Below.calls g s0_0 t228 t229 9 t230 t231 t232 w0 _ ?side1 ?side2 A7.out).mono ?_); (case side1 => repeat (first | (with_reducible first | exact HI0.out | apply IsS157.alloc | apply IsS157.drewN | apply IsS157.drew | apply IsS157.set_1 | apply IsS157.set_2) | exact HI0.out)); (case side2 => repeat (first | (with_reducible first | exact HB.out | apply pa_' | apply pn_' | apply pd_' | refine pt_' ?_ (IsS157.ge HI0.out)) | exact HB.out)); rintro e w16 ⟨rfl, hi, hb, hk⟩; refine ⟨_, rfl, ?_⟩; have n0_ := sk_' (xi_' (Kd.R_keep (IsS157.apart (show IsS157 w0 _ g s0_0 t228 t229 from by repeat (first | (with_reducible first | exact HI0.out | apply IsS157.alloc | apply IsS157.drewN | apply IsS157.drew | apply IsS157.set_1 | apply IsS157.set_2) | exact HI0.out)) (by (with_reducible repeat (first | apply ra_' | apply rn_' | apply rd1_')); exact HO224.out) (by decide)) hk (fun _ h => h.2)) (fun _ h => h.1)); have n1_ := sk_' (KeepBut.trans (by repeat (first | (with_reducible first | exact HK.out | apply KeepBut.set_ | apply keep_drewN | apply keep_drew | apply keep_alloc) | exact HK.out)) hk (.inl rfl)); have n2_ := sk_' (hb); have n3_ := sk_' (hi); clear HO224; clear HK; clear HB; clear HI0; have HO224 := n0_; have HK := n1_; have HB := n2_; have HI0 := n3_; clear n0_ n1_ n2_ n3_; (try clear hb); (try clear hb2); (try clear hk); (try clear hi)) | ((with_reducible refine gate_dst (N := 22) rfl ?_); refine Kd.R_lit (Kd.int .i64) _ 3 ?hg (N := 22) ?hd (xs := ([(-1), 2000, 2001] : List Int)) (inner := [.int .i64 (-1), .int .i64 2000, .int .i64 2001]) (ok := fun _ => True) (okp := fun _ => True) ?hr ?hp (fun _ hk => hk) trivial (Below.refl _ _) (Nat.le_refl _) (by simp) ?_; (case hd => rfl); (case hg => rfl); (case hr => first | (go_simp; done) | (go_simp; rfl)); (case hp => exact (Reps.one (show Kd.M (Kd.int .i64) _ _ _ (-1) [.int .i64 (-1)] from rfl) (Reps.one (show Kd.M (Kd.int .i64) _ _ _ 2000 [.int .i64 2000] from rfl) (Reps.one (show Kd.M (Kd.int .i64) _ _ _ 2001 [.int .i64 2001] from rfl) (Reps.none _ _))))); intro v234 w17 ho18 hb hg_ hnew_; clear hg_ hnew_; (first | rw [← Ny233.out] at ho18 | (simp only [Int.reduceToNat] at ho18; rw [← Ny233.out] at ho18)); have n0_ := sk_' (xb_' (by (with_reducible repeat (first | apply ra_' | apply rn_' | apply rd1_')); exact HO224.out) hb); have n1_ := sk_' (Kd.R_lower ho18 (keep_size (w := w) (g := g) (row := none) (by repeat (first | (with_reducible first | exact HK.out | apply KeepBut.set_ | apply keep_drewN | apply keep_drew | apply keep_alloc) | exact HK.out)))); have n2_ := sk_' (IsS157.below (by repeat (first | (with_reducible first | exact HI0.out | apply IsS157.alloc | apply IsS157.drewN | apply IsS157.drew | apply IsS157.set_1 | apply IsS157.set_2) | exact HI0.out)) hb); have n3_ := sk_' (KeepBut.trans (by repeat (first | (with_reducible first | exact HK.out | apply KeepBut.set_ | apply keep_drewN | apply keep_drew | apply keep_alloc) | exact HK.out)) (KeepBut.of_below hb g none) (.inl rfl)); have n4_ := sk_' (pp_' (by repeat (first | (with_reducible first | exact HB.out | apply pa_' | apply pn_' | apply pd_' | refine pt_' ?_ (IsS157.ge HI0.out)) | exact HB.out)) hb); clear HO224; clear HI0; clear HK; clear HB; have HO224 := n0_; have HO235 := n1_; have HI0 := n2_; have HK := n3_; have HB := n4_; clear n0_ n1_ n2_ n3_ n4_; clear hb ho18; obtain ⟨Ao19, co19, eo19⟩ := Kd.R_slice HO235.out; subst eo19) | ((with_reducible refine xj_' (f := 78) rfl ?_); refine goesL_ (some 23) rfl rfl Try.func78 (by kernel_rfl) rfl #[.pointer (some ⟨g, 0, none⟩), .slice Ao19 y233.length co19] rfl (by (try simp only [xm_', xc_', xn_']); first | done | rfl | (simp only [xd_', xt_']; rfl)) ?_; (with_reducible refine (spec_l1Int.calls g s0_0 t231 t232 _ _ y233 t236 t237 t238 w0 _ ?side1 ?side2 ?side3 ?side4 ?side5 A9.out).mono ?_); (case side1 => repeat (first | (with_reducible first | exact HI0.out | apply IsS157.alloc | apply IsS157.drewN | apply IsS157.drew | apply IsS157.set_1 | apply IsS157.set_2) | exact HI0.out)); (case side2 => repeat (first | (with_reducible first | exact HB.out | apply pa_' | apply pn_' | apply pd_' | refine pt_' ?_ (IsS157.ge HI0.out)) | exact HB.out)); (case side3 => repeat (first | exact (xr_' HO235.out).2.2 | (with_reducible refine xg_' ?_ _) | (with_reducible refine xe_' ?_ _) | (with_reducible refine xf_' ?_))); (case side4 => exact (xr_' HO235.out).2.1); (case side5 => exact far_slice (IsS157.own_ne HI0.out HO235.out (by decide))); rintro e w20 ⟨rfl, hi, hb, hk⟩; refine ⟨_, rfl, ?_⟩; have n0_ := sk_' (xi_' (Kd.R_keep (IsS157.apart (show IsS157 w0 _ g s0_0 t231 t232 from by repeat (first | (with_reducible first | exact HI0.out | apply IsS157.alloc | apply IsS157.drewN | apply IsS157.drew | apply IsS157.set_1 | apply IsS157.set_2) | exact HI0.out)) (by (with_reducible repeat (first | apply ra_' | apply rn_' | apply rd1_')); exact HO224.out) (by decide)) hk (fun _ h => h.2)) (fun _ h => h.1)); have n1_ := sk_' (xi_' (Kd.R_keep (IsS157.apart (show IsS157 w0 _ g s0_0 t231 t232 from by repeat (first | (with_reducible first | exact HI0.out | apply IsS157.alloc | apply IsS157.drewN | apply IsS157.drew | apply IsS157.set_1 | apply IsS157.set_2) | exact HI0.out)) (by (with_reducible repeat (first | apply ra_' | apply rn_' | apply rd1_')); exact HO235.out) (by decide)) hk (fun _ h => h.2)) (fun _ h => h.1)); have n2_ := sk_' (KeepBut.trans (by repeat (first | (with_reducible first | exact HK.out | apply KeepBut.set_ | apply keep_drewN | apply keep_drew | apply keep_alloc) | exact HK.out)) hk (.inl rfl)); have n3_ := sk_' (hb); have n4_ := sk_' (hi); clear HO224; clear HO235; clear HK; clear HB; clear HI0; have HO224 := n0_; have HO235 := n1_; have HK := n2_; have HB := n3_; have HI0 := n4_; clear n0_ n1_ n2_ n3_ n4_; (try clear hb); (try clear hb2); (try clear hk); (try clear hi); have p12 : 0 ≤ (t227 : Int) := od_' (by first | (with_reducible assumption) | assumption); have q12 : (t227 : Int) < ((t222.length : Int) : Int) := od_' (by first | (with_reducible assumption) | assumption); obtain ⟨go12, co12, eo12, gb12, gl12, cl12, HG12⟩ := Kd.R_form HO224.out (by omega); (first | cases eo12 | (injection eo12 with ea_ en_ ec_; (first | subst ea_ | (injection ea_ with ea_; subst ea_)); subst ec_; clear en_)); have GB12 := sk_' gb12; have GG12 := sk_' HG12; clear gb12 gl12 HG12; obtain ⟨ce12, hcl12, hM12, hcc12, hfr12⟩ := Kd.R_elem HO224.out z26 (t227 : Int) p12 q12; obtain rfl := k26_openM hM12; have hx12_0 : w20.cell? ⟨go12, (t227 : Int).toNat * 4, none⟩ = some (.int .i64 ((rd_T26 t222 t227).f0)) := hcc12 0 _ rfl; have hx12_1 : w20.cell? ⟨go12, (t227 : Int).toNat * 4 + 1, none⟩ = some (.int .i64 ((rd_T26 t222 t227).f1)) := hcc12 1 _ rfl; have hx12_2 : w20.cell? ⟨go12, (t227 : Int).toNat * 4 + 2, none⟩ = some (.int .i64 ((rd_T26 t222 t227).f2)) := hcc12 2 _ rfl; have hx12_3 : w20.cell? ⟨go12, (t227 : Int).toNat * 4 + 3, none⟩ = some (.int .i64 ((rd_T26 t222 t227).f3)) := hcc12 3 _ rfl; have hf12_0 : w20.frozen? ⟨go12, (t227 : Int).toNat * 4, none⟩ = false := hfr12 0; have hf12_1 : w20.frozen? ⟨go12, (t227 : Int).toNat * 4 + 1, none⟩ = false := hfr12 1; have hf12_2 : w20.frozen? ⟨go12, (t227 : Int).toNat * 4 + 2, none⟩ = false := hfr12 2; have hf12_3 : w20.frozen? ⟨go12, (t227 : Int).toNat * 4 + 3, none⟩ = false := hfr12 3; clear hcl12 hcc12 hfr12 hM12; replace p12 := eq_true p12; replace q12 := eq_true q12; have HX21 := sk_' (show Kd.R k26 26 w20 w.heap.size (fun _ => True) (.slice (some ⟨go12, 0, none⟩) t222.length co14) t222 from (by (with_reducible repeat (first | apply ra_' | apply rn_' | apply rd1_')); exact HO224.out)); obtain ⟨ce21, hcl21, hM21, hcc21, hfr21⟩ := Kd.R_elem HX21.out z26 (t227 : Int) (od_' (by first | (with_reducible assumption) | assumption)) (by have h_ : (t227 : Int) < ((t222.length : Int) : Int) := od_' (by first | (with_reducible assumption) | assumption); first | exact h_ | (have e_ := (xr_' HO224.out).1; omega) | simpa using h_); obtain rfl := k26_openM hM21; have HP21 := Kd.R_seg HX21.out (t227 : Int) (od_' (by first | (with_reducible assumption) | assumption)) (by have h_ : (t227 : Int) < ((t222.length : Int) : Int) := od_' (by first | (with_reducible assumption) | assumption); first | exact h_ | (have e_ := (xr_' HO224.out).1; omega) | simpa using h_) (seg := [.int .i64 t236]) (j := 0) hcl21 hcc21 (show 1 ≤ 4 from by decide) (x' := (⟨t236, (rd_T26 t222 t227).f1, (rd_T26 t222 t227).f2, (rd_T26 t222 t227).f3⟩ : S26)) (k26_mkM _ _ _ (⟨t236, (rd_T26 t222 t227).f1, (rd_T26 t222 t227).f2, (rd_T26 t222 t227).f3⟩ : S26) ) (fun _ hk => hk); have hx21_0 := hcc21 0 _ rfl; (try simp only [show (k26).sz = 4 from rfl, Nat.mul_one, Nat.add_zero] at hx21_0); have hf21_0 := hfr21 0; (try simp only [show (k26).sz = 4 from rfl, Nat.mul_one, Nat.add_zero] at hf21_0); clear hcl21 hcc21 hfr21 hM21) | ((with_reducible refine gate_store (t := 3) (p := 25) rfl ?_); refine store_event (t := 3) (p := 25) (v := ?vo_w22) (w1 := (w20.setCell ⟨go12, (t227 : Int).toNat * 4, none⟩ (.int .i64 t236))) ?hg ?ho ?hn ?hr ?_; (case ho => rfl); (case hg => rfl); (case hn => rfl); (case hr => first | (go_simp; done) | (go_simp; rfl)); intro w22 hw; have hg : w20.grownBy w22 (some go12) := (by rw [hw]; exact HP21.2); have hp_ : Kd.R k26 26 w22 w.heap.size (fun _ => True) (.slice (some ⟨go12, 0, none⟩) t222.length co14) y239 := (by rw [hw, Ny239.out]; exact HP21.1); clear HP21; have n0_ := sk_' (IsS157.grown (by repeat (first | (with_reducible first | exact HI0.out | apply IsS157.alloc | apply IsS157.drewN | apply IsS157.drew | apply IsS157.set_1 | apply IsS157.set_2) | exact HI0.out)) hg (IsS157.own_ne HI0.out HO224.out (by decide))); have n1_ := sk_' (hp_); have n2_ := sk_' (Kd.R_over' (v := (.slice (some ⟨go12, 0, none⟩) t222.length co14)) (by (with_reducible repeat (first | apply ra_' | apply rn_' | apply rd1_')); exact HO235.out) (Kd.R_typed HO224.out) (by decide) hg); have n3_ := sk_' ((by rw [hw]; exact pt_' (HB.out) (Nat.le_trans HL.out GB12.out) : Below w0.heap.size w0 w22)); have n4_ := sk_' (KeepBut.trans (by repeat (first | (with_reducible first | exact HK.out | apply KeepBut.set_ | apply keep_drewN | apply keep_drew | apply keep_alloc) | exact HK.out)) (KeepBut.of_grown hg g) (Kd.R_base2 HO224.out)); clear HI0; clear HO224; clear HO235; clear HB; clear HK; have HI0 := n0_; have HO224 := n1_; have HO235 := n2_; have HB := n3_; have HK := n4_; clear n0_ n1_ n2_ n3_ n4_; clear hg hw hp_))
    go_ret
    exact ⟨_, by first | rfl | (simp [errW_none, errW_some] <;> rfl) | (simp [*, errW_none, errW_some] <;> rfl), by (with_reducible repeat (first | apply ra_' | apply rn_' | apply rd1_')); exact HO224.out, by repeat (first | (with_reducible first | exact HI0.out | apply IsS157.alloc | apply IsS157.drewN | apply IsS157.drew | apply IsS157.set_1 | apply IsS157.set_2) | exact HI0.out), by repeat (first | (with_reducible first | exact HB.out | apply pa_' | apply pn_' | apply pd_' | refine pt_' ?_ (IsS157.ge HI0.out)) | exact HB.out), by repeat (first | (with_reducible first | exact HK.out | apply KeepBut.set_ | apply keep_drewN | apply keep_drew | apply keep_alloc) | exact HK.out)⟩
   rw [if_neg c11] at H
   exact absurd H (by simp)
  rw [if_neg c10] at H
  exact absurd H (by simp)
 rw [if_neg c8] at H
 have c8b0 : (t230 == 0) = false := beq_eq_false_iff_ne.mpr c8
 have c8b1 : (t230 != 0) = true := bne_iff_ne.mpr c8
 by_cases c23 : t230 = 1
 ·
  rw [if_pos c23] at H
  have c23b0 : (t230 == 1) = true := beq_iff_eq.mpr c23
  have c23b1 : (t230 != 1) = false := bne_eq_false_iff_eq.mpr c23
  clear c23
  obtain ⟨y240, hy240⟩ : ∃ y_ : List Int, y_ = (([0, 96, 97] : List Int)) := ⟨_, rfl⟩
  replace H : ((spec_l1Int.f s0_0 t231 t232 y240).bind fun bt243 => (if 0 ≤ t227 then (if t227 < (t222.length : Int) then (some ((t222.set (t227 : Int).toNat (⟨(rd_T26 t222 t227).f0, bt243.1, (rd_T26 t222 t227).f2, (rd_T26 t222 t227).f3⟩ : S26)), bt243.2.1, bt243.2.2)) else (none)) else (none))) = some (r1, r2, r3) := by first | (rw [hy240]; with_reducible exact H) | (have H2_ := (Option.bind_some _ _).symm.trans H; rw [hy240]; with_reducible exact H2_) | (have H2_ := (Option.bind_some _ _).symm.trans H; with_reducible exact H2_) | with_reducible exact H | (rw [hy240]; exact H) | exact H
  have Ny240 := sk_' hy240
  clear hy240
  replace H := bs_' H
  obtain ⟨⟨t243, t244, t245⟩, A240, H⟩ := H
  try dsimp only at H
  have A24 := sk_' A240
  clear A240
  by_cases c25 : 0 ≤ t227
  ·
   rw [if_pos c25] at H
   have c25b0 : decide (0 ≤ t227) = true := decide_eq_true c25
   clear c25
   by_cases c26 : t227 < (t222.length : Int)
   ·
    rw [if_pos c26] at H
    have c26b0 : decide (t227 < (t222.length : Int)) = true := decide_eq_true c26
    clear c26
    obtain ⟨y246, hy246⟩ : ∃ y_ : List (S26), y_ = (t222.set (t227 : Int).toNat (⟨(rd_T26 t222 t227).f0, t243, (rd_T26 t222 t227).f2, (rd_T26 t222 t227).f3⟩ : S26)) := ⟨_, rfl⟩
    replace H : (some (y246, t244, t245)) = some (r1, r2, r3) := by first | (rw [hy246]; with_reducible exact H) | (have H2_ := (Option.bind_some _ _).symm.trans H; rw [hy246]; with_reducible exact H2_) | (have H2_ := (Option.bind_some _ _).symm.trans H; with_reducible exact H2_) | with_reducible exact H | (rw [hy246]; exact H) | exact H
    have Ny246 := sk_' hy246
    clear hy246
    simp only [Option.some.injEq, Prod.mk.injEq] at H
    obtain ⟨rfl, rfl, rfl⟩ := H
    go_enter Try.func75, Try.ntmps75
    go_wp2_with (first | ((with_reducible refine xj_' (f := 129) rfl ?_); refine goesL_ (some 6) rfl rfl Try.func129 (by kernel_rfl) rfl #[.pointer (some ⟨g, 0, none⟩)] rfl (by (try simp only [xm_', xc_', xn_']); first | done | rfl | (simp only [xd_', xt_']; rfl)) ?_; (with_reducible refine (spec_l8Draw.calls k g s0_0 s0_1 s0_2 t222 t225 t226 w0 _ ?side1 ?side2 A2.out).mono ?_); (case side1 => repeat (first | (with_reducible first | exact HI0.out | apply IsS157.alloc | apply IsS157.drewN | apply IsS157.drew | apply IsS157.set_1 | apply IsS157.set_2) | exact HI0.out)); (case side2 => repeat (first | (with_reducible first | exact HB.out | apply pa_' | apply pn_' | apply pd_' | refine pt_' ?_ (IsS157.ge HI0.out)) | exact HB.out)); rintro e w28 ⟨v223, rfl, ho0, hi, hb, hk⟩; refine ⟨_, rfl, ?_⟩; have n0_ := sk_' (Kd.R_lower ho0 (keep_size (w := w) (g := g) (row := none) (by repeat (first | (with_reducible first | exact HK.out | apply KeepBut.set_ | apply keep_drewN | apply keep_drew | apply keep_alloc) | exact HK.out)))); have n1_ := sk_' (KeepBut.trans (by repeat (first | (with_reducible first | exact HK.out | apply KeepBut.set_ | apply keep_drewN | apply keep_drew | apply keep_alloc) | exact HK.out)) hk (.inl rfl)); have n2_ := sk_' (hb); have n3_ := sk_' (hi); clear HK; clear HB; clear HI0; have HO224 := n0_; have HK := n1_; have HB := n2_; have HI0 := n3_; clear n0_ n1_ n2_ n3_; (try clear hb); (try clear hb2); (try clear hk); (try clear hi); (try clear ho0); obtain ⟨Ao29, co29, eo29⟩ := Kd.R_slice HO224.out; subst eo29) | ((with_reducible refine xj_' (f := 91) rfl ?_); refine goesL_ (some 14) rfl rfl Try.func91 (by kernel_rfl) rfl #[.pointer (some ⟨g, 0, none⟩), .int .i64 (t222.length : Int)] rfl (by (try simp only [xm_', xc_', xn_']); first | done | rfl | (simp only [xd_', xt_']; rfl)) ?_; (with_reducible refine (spec_l1Below.calls g s0_0 t225 t226 (t222.length : Int) t227 t228 t229 w0 _ ?side1 ?side2 A6.out).mono ?_); (case side1 => repeat (first | (with_reducible first | exact HI0.out | apply IsS157.alloc | apply IsS157.drewN | apply IsS157.drew | apply IsS157.set_1 | apply IsS157.set_2) | exact HI0.out)); (case side2 => repeat (first | (with_reducible first | exact HB.out | apply pa_' | apply pn_' | apply pd_' | refine pt_' ?_ (IsS157.ge HI0.out)) | exact HB.out)); rintro e w30 ⟨rfl, hi, hb, hk⟩; refine ⟨_, rfl, ?_⟩; have n0_ := sk_' (xi_' (Kd.R_keep (IsS157.apart (show IsS157 w0 _ g s0_0 t225 t226 from by repeat (first | (with_reducible first | exact HI0.out | apply IsS157.alloc | apply IsS157.drewN | apply IsS157.drew | apply IsS157.set_1 | apply IsS157.set_2) | exact HI0.out)) (by (with_reducible repeat (first | apply ra_' | apply rn_' | apply rd1_')); exact HO224.out) (by decide)) hk (fun _ h => h.2)) (fun _ h => h.1)); have n1_ := sk_' (KeepBut.trans (by repeat (first | (with_reducible first | exact HK.out | apply KeepBut.set_ | apply keep_drewN | apply keep_drew | apply keep_alloc) | exact HK.out)) hk (.inl rfl)); have n2_ := sk_' (hb); have n3_ := sk_' (hi); clear HO224; clear HK; clear HB; clear HI0; have HO224 := n0_; have HK := n1_; have HB := n2_; have HI0 := n3_; clear n0_ n1_ n2_ n3_; (try clear hb); (try clear hb2); (try clear hk); (try clear hi)) | ((with_reducible refine xj_' (f := 91) rfl ?_); refine goesL_ (some 16) rfl rfl Try.func91 (by kernel_rfl) rfl #[.pointer (some ⟨g, 0, none⟩), .int .i64 9] rfl (by (try simp only [xm_', xc_', xn_']); first | done | rfl | (simp only [xd_', xt_']; rfl)) ?_; (with_reducible refine (spec_l1Below.calls g s0_0 t228 t229 9 t230 t231 t232 w0 _ ?side1 ?side2 A7.out).mono ?_); (case side1 => repeat (first | (with_reducible first | exact HI0.out | apply IsS157.alloc | apply IsS157.drewN | apply IsS157.drew | apply IsS157.set_1 | apply IsS157.set_2) | exact HI0.out)); (case side2 => repeat (first | (with_reducible first | exact HB.out | apply pa_' | apply pn_' | apply pd_' | refine pt_' ?_ (IsS157.ge HI0.out)) | exact HB.out)); rintro e w31 ⟨rfl, hi, hb, hk⟩; refine ⟨_, rfl, ?_⟩; have n0_ := sk_' (xi_' (Kd.R_keep (IsS157.apart (show IsS157 w0 _ g s0_0 t228 t229 from by repeat (first | (with_reducible first | exact HI0.out | apply IsS157.alloc | apply IsS157.drewN | apply IsS157.drew | apply IsS157.set_1 | apply IsS157.set_2) | exact HI0.out)) (by (with_reducible repeat (first | apply ra_' | apply rn_' | apply rd1_')); exact HO224.out) (by decide)) hk (fun _ h => h.2)) (fun _ h => h.1)); have n1_ := sk_' (KeepBut.trans (by repeat (first | (with_reducible first | exact HK.out | apply KeepBut.set_ | apply keep_drewN | apply keep_drew | apply keep_alloc) | exact HK.out)) hk (.inl rfl)); have n2_ := sk_' (hb); have n3_ := sk_' (hi); clear HO224; clear HK; clear HB; clear HI0; have HO224 := n0_; have HK := n1_; have HB := n2_; have HI0 := n3_; clear n0_ n1_ n2_ n3_; (try clear hb); (try clear hb2); (try clear hk); (try clear hi)) | ((with_reducible refine gate_dst (N := 31) rfl ?_); refine Kd.R_lit (Kd.int .i64) _ 3 ?hg (N := 31) ?hd (xs := ([0, 96, 97] : List Int)) (inner := [.int .i64 0, .int .i64 96, .int .i64 97]) (ok := fun _ => True) (okp := fun _ => True) ?hr ?hp (fun _ hk => hk) trivial (Below.refl _ _) (Nat.le_refl _) (by simp) ?_; (case hd => rfl); (case hg => rfl); (case hr => first | (go_simp; done) | (go_simp; rfl)); (case hp => exact (Reps.one (show Kd.M (Kd.int .i64) _ _ _ 0 [.int .i64 0] from rfl) (Reps.one (show Kd.M (Kd.int .i64) _ _ _ 96 [.int .i64 96] from rfl) (Reps.one (show Kd.M (Kd.int .i64) _ _ _ 97 [.int .i64 97] from rfl) (Reps.none _ _))))); intro v241 w32 ho33 hb hg_ hnew_; clear hg_ hnew_; (first | rw [← Ny240.out] at ho33 | (simp only [Int.reduceToNat] at ho33; rw [← Ny240.out] at ho33)); have n0_ := sk_' (xb_' (by (with_reducible repeat (first | apply ra_' | apply rn_' | apply rd1_')); exact HO224.out) hb); have n1_ := sk_' (Kd.R_lower ho33 (keep_size (w := w) (g := g) (row := none) (by repeat (first | (with_reducible first | exact HK.out | apply KeepBut.set_ | apply keep_drewN | apply keep_drew | apply keep_alloc) | exact HK.out)))); have n2_ := sk_' (IsS157.below (by repeat (first | (with_reducible first | exact HI0.out | apply IsS157.alloc | apply IsS157.drewN | apply IsS157.drew | apply IsS157.set_1 | apply IsS157.set_2) | exact HI0.out)) hb); have n3_ := sk_' (KeepBut.trans (by repeat (first | (with_reducible first | exact HK.out | apply KeepBut.set_ | apply keep_drewN | apply keep_drew | apply keep_alloc) | exact HK.out)) (KeepBut.of_below hb g none) (.inl rfl)); have n4_ := sk_' (pp_' (by repeat (first | (with_reducible first | exact HB.out | apply pa_' | apply pn_' | apply pd_' | refine pt_' ?_ (IsS157.ge HI0.out)) | exact HB.out)) hb); clear HO224; clear HI0; clear HK; clear HB; have HO224 := n0_; have HO242 := n1_; have HI0 := n2_; have HK := n3_; have HB := n4_; clear n0_ n1_ n2_ n3_ n4_; clear hb ho33; obtain ⟨Ao34, co34, eo34⟩ := Kd.R_slice HO242.out; subst eo34) | ((with_reducible refine xj_' (f := 78) rfl ?_); refine goesL_ (some 32) rfl rfl Try.func78 (by kernel_rfl) rfl #[.pointer (some ⟨g, 0, none⟩), .slice Ao34 y240.length co34] rfl (by (try simp only [xm_', xc_', xn_']); first | done | rfl | (simp only [xd_', xt_']; rfl)) ?_; (with_reducible refine (spec_l1Int.calls g s0_0 t231 t232 _ _ y240 t243 t244 t245 w0 _ ?side1 ?side2 ?side3 ?side4 ?side5 A24.out).mono ?_); (case side1 => repeat (first | (with_reducible first | exact HI0.out | apply IsS157.alloc | apply IsS157.drewN | apply IsS157.drew | apply IsS157.set_1 | apply IsS157.set_2) | exact HI0.out)); (case side2 => repeat (first | (with_reducible first | exact HB.out | apply pa_' | apply pn_' | apply pd_' | refine pt_' ?_ (IsS157.ge HI0.out)) | exact HB.out)); (case side3 => repeat (first | exact (xr_' HO242.out).2.2 | (with_reducible refine xg_' ?_ _) | (with_reducible refine xe_' ?_ _) | (with_reducible refine xf_' ?_))); (case side4 => exact (xr_' HO242.out).2.1); (case side5 => exact far_slice (IsS157.own_ne HI0.out HO242.out (by decide))); rintro e w35 ⟨rfl, hi, hb, hk⟩; refine ⟨_, rfl, ?_⟩; have n0_ := sk_' (xi_' (Kd.R_keep (IsS157.apart (show IsS157 w0 _ g s0_0 t231 t232 from by repeat (first | (with_reducible first | exact HI0.out | apply IsS157.alloc | apply IsS157.drewN | apply IsS157.drew | apply IsS157.set_1 | apply IsS157.set_2) | exact HI0.out)) (by (with_reducible repeat (first | apply ra_' | apply rn_' | apply rd1_')); exact HO224.out) (by decide)) hk (fun _ h => h.2)) (fun _ h => h.1)); have n1_ := sk_' (xi_' (Kd.R_keep (IsS157.apart (show IsS157 w0 _ g s0_0 t231 t232 from by repeat (first | (with_reducible first | exact HI0.out | apply IsS157.alloc | apply IsS157.drewN | apply IsS157.drew | apply IsS157.set_1 | apply IsS157.set_2) | exact HI0.out)) (by (with_reducible repeat (first | apply ra_' | apply rn_' | apply rd1_')); exact HO242.out) (by decide)) hk (fun _ h => h.2)) (fun _ h => h.1)); have n2_ := sk_' (KeepBut.trans (by repeat (first | (with_reducible first | exact HK.out | apply KeepBut.set_ | apply keep_drewN | apply keep_drew | apply keep_alloc) | exact HK.out)) hk (.inl rfl)); have n3_ := sk_' (hb); have n4_ := sk_' (hi); clear HO224; clear HO242; clear HK; clear HB; clear HI0; have HO224 := n0_; have HO242 := n1_; have HK := n2_; have HB := n3_; have HI0 := n4_; clear n0_ n1_ n2_ n3_ n4_; (try clear hb); (try clear hb2); (try clear hk); (try clear hi); have p27 : 0 ≤ (t227 : Int) := od_' (by first | (with_reducible assumption) | assumption); have q27 : (t227 : Int) < ((t222.length : Int) : Int) := od_' (by first | (with_reducible assumption) | assumption); obtain ⟨go27, co27, eo27, gb27, gl27, cl27, HG27⟩ := Kd.R_form HO224.out (by omega); (first | cases eo27 | (injection eo27 with ea_ en_ ec_; (first | subst ea_ | (injection ea_ with ea_; subst ea_)); subst ec_; clear en_)); have GB27 := sk_' gb27; have GG27 := sk_' HG27; clear gb27 gl27 HG27; obtain ⟨ce27, hcl27, hM27, hcc27, hfr27⟩ := Kd.R_elem HO224.out z26 (t227 : Int) p27 q27; obtain rfl := k26_openM hM27; have hx27_0 : w35.cell? ⟨go27, (t227 : Int).toNat * 4, none⟩ = some (.int .i64 ((rd_T26 t222 t227).f0)) := hcc27 0 _ rfl; have hx27_1 : w35.cell? ⟨go27, (t227 : Int).toNat * 4 + 1, none⟩ = some (.int .i64 ((rd_T26 t222 t227).f1)) := hcc27 1 _ rfl; have hx27_2 : w35.cell? ⟨go27, (t227 : Int).toNat * 4 + 2, none⟩ = some (.int .i64 ((rd_T26 t222 t227).f2)) := hcc27 2 _ rfl; have hx27_3 : w35.cell? ⟨go27, (t227 : Int).toNat * 4 + 3, none⟩ = some (.int .i64 ((rd_T26 t222 t227).f3)) := hcc27 3 _ rfl; have hf27_0 : w35.frozen? ⟨go27, (t227 : Int).toNat * 4, none⟩ = false := hfr27 0; have hf27_1 : w35.frozen? ⟨go27, (t227 : Int).toNat * 4 + 1, none⟩ = false := hfr27 1; have hf27_2 : w35.frozen? ⟨go27, (t227 : Int).toNat * 4 + 2, none⟩ = false := hfr27 2; have hf27_3 : w35.frozen? ⟨go27, (t227 : Int).toNat * 4 + 3, none⟩ = false := hfr27 3; clear hcl27 hcc27 hfr27 hM27; replace p27 := eq_true p27; replace q27 := eq_true q27; have HX36 := sk_' (show Kd.R k26 26 w35 w.heap.size (fun _ => True) (.slice (some ⟨go27, 0, none⟩) t222.length co29) t222 from (by (with_reducible repeat (first | apply ra_' | apply rn_' | apply rd1_')); exact HO224.out)); obtain ⟨ce36, hcl36, hM36, hcc36, hfr36⟩ := Kd.R_elem HX36.out z26 (t227 : Int) (od_' (by first | (with_reducible assumption) | assumption)) (by have h_ : (t227 : Int) < ((t222.length : Int) : Int) := od_' (by first | (with_reducible assumption) | assumption); first | exact h_ | (have e_ := (xr_' HO224.out).1; omega) | simpa using h_); obtain rfl := k26_openM hM36; have HP36 := Kd.R_seg HX36.out (t227 : Int) (od_' (by first | (with_reducible assumption) | assumption)) (by have h_ : (t227 : Int) < ((t222.length : Int) : Int) := od_' (by first | (with_reducible assumption) | assumption); first | exact h_ | (have e_ := (xr_' HO224.out).1; omega) | simpa using h_) (seg := [.int .i64 t243]) (j := 1) hcl36 hcc36 (show 2 ≤ 4 from by decide) (x' := (⟨(rd_T26 t222 t227).f0, t243, (rd_T26 t222 t227).f2, (rd_T26 t222 t227).f3⟩ : S26)) (k26_mkM _ _ _ (⟨(rd_T26 t222 t227).f0, t243, (rd_T26 t222 t227).f2, (rd_T26 t222 t227).f3⟩ : S26) ) (fun _ hk => hk); have hx36_1 := hcc36 1 _ rfl; (try simp only [show (k26).sz = 4 from rfl, Nat.mul_one, Nat.add_zero] at hx36_1); have hf36_1 := hfr36 1; (try simp only [show (k26).sz = 4 from rfl, Nat.mul_one, Nat.add_zero] at hf36_1); clear hcl36 hcc36 hfr36 hM36) | ((with_reducible refine gate_store (t := 3) (p := 34) rfl ?_); refine store_event (t := 3) (p := 34) (v := ?vo_w37) (w1 := (w35.setCell ⟨go27, (t227 : Int).toNat * 4 + 1, none⟩ (.int .i64 t243))) ?hg ?ho ?hn ?hr ?_; (case ho => rfl); (case hg => rfl); (case hn => rfl); (case hr => first | (go_simp; done) | (go_simp; rfl)); intro w37 hw; have hg : w35.grownBy w37 (some go27) := (by rw [hw]; exact HP36.2); have hp_ : Kd.R k26 26 w37 w.heap.size (fun _ => True) (.slice (some ⟨go27, 0, none⟩) t222.length co29) y246 := (by rw [hw, Ny246.out]; exact HP36.1); clear HP36; have n0_ := sk_' (IsS157.grown (by repeat (first | (with_reducible first | exact HI0.out | apply IsS157.alloc | apply IsS157.drewN | apply IsS157.drew | apply IsS157.set_1 | apply IsS157.set_2) | exact HI0.out)) hg (IsS157.own_ne HI0.out HO224.out (by decide))); have n1_ := sk_' (hp_); have n2_ := sk_' (Kd.R_over' (v := (.slice (some ⟨go27, 0, none⟩) t222.length co29)) (by (with_reducible repeat (first | apply ra_' | apply rn_' | apply rd1_')); exact HO242.out) (Kd.R_typed HO224.out) (by decide) hg); have n3_ := sk_' ((by rw [hw]; exact pt_' (HB.out) (Nat.le_trans HL.out GB27.out) : Below w0.heap.size w0 w37)); have n4_ := sk_' (KeepBut.trans (by repeat (first | (with_reducible first | exact HK.out | apply KeepBut.set_ | apply keep_drewN | apply keep_drew | apply keep_alloc) | exact HK.out)) (KeepBut.of_grown hg g) (Kd.R_base2 HO224.out)); clear HI0; clear HO224; clear HO242; clear HB; clear HK; have HI0 := n0_; have HO224 := n1_; have HO242 := n2_; have HB := n3_; have HK := n4_; clear n0_ n1_ n2_ n3_ n4_; clear hg hw hp_))
    go_ret
    exact ⟨_, by first | rfl | (simp [errW_none, errW_some] <;> rfl) | (simp [*, errW_none, errW_some] <;> rfl), by (with_reducible repeat (first | apply ra_' | apply rn_' | apply rd1_')); exact HO224.out, by repeat (first | (with_reducible first | exact HI0.out | apply IsS157.alloc | apply IsS157.drewN | apply IsS157.drew | apply IsS157.set_1 | apply IsS157.set_2) | exact HI0.out), by repeat (first | (with_reducible first | exact HB.out | apply pa_' | apply pn_' | apply pd_' | refine pt_' ?_ (IsS157.ge HI0.out)) | exact HB.out), by repeat (first | (with_reducible first | exact HK.out | apply KeepBut.set_ | apply keep_drewN | apply keep_drew | apply keep_alloc) | exact HK.out)⟩
   rw [if_neg c26] at H
   exact absurd H (by simp)
  rw [if_neg c25] at H
  exact absurd H (by simp)
 rw [if_neg c23] at H
 have c23b0 : (t230 == 1) = false := beq_eq_false_iff_ne.mpr c23
 have c23b1 : (t230 != 1) = true := bne_iff_ne.mpr c23
 by_cases c38 : t230 = 2
 ·
  rw [if_pos c38] at H
  have c38b0 : (t230 == 2) = true := beq_iff_eq.mpr c38
  have c38b1 : (t230 != 2) = false := bne_eq_false_iff_eq.mpr c38
  clear c38
  obtain ⟨y247, hy247⟩ : ∃ y_ : List Int, y_ = (([20, 108, 109] : List Int)) := ⟨_, rfl⟩
  replace H : ((spec_l1Int.f s0_0 t231 t232 y247).bind fun bt250 => (if 0 ≤ t227 then (if t227 < (t222.length : Int) then (some ((t222.set (t227 : Int).toNat (⟨(rd_T26 t222 t227).f0, (rd_T26 t222 t227).f1, bt250.1, (rd_T26 t222 t227).f3⟩ : S26)), bt250.2.1, bt250.2.2)) else (none)) else (none))) = some (r1, r2, r3) := by first | (rw [hy247]; with_reducible exact H) | (have H2_ := (Option.bind_some _ _).symm.trans H; rw [hy247]; with_reducible exact H2_) | (have H2_ := (Option.bind_some _ _).symm.trans H; with_reducible exact H2_) | with_reducible exact H | (rw [hy247]; exact H) | exact H
  have Ny247 := sk_' hy247
  clear hy247
  replace H := bs_' H
  obtain ⟨⟨t250, t251, t252⟩, A390, H⟩ := H
  try dsimp only at H
  have A39 := sk_' A390
  clear A390
  by_cases c40 : 0 ≤ t227
  ·
   rw [if_pos c40] at H
   have c40b0 : decide (0 ≤ t227) = true := decide_eq_true c40
   clear c40
   by_cases c41 : t227 < (t222.length : Int)
   ·
    rw [if_pos c41] at H
    have c41b0 : decide (t227 < (t222.length : Int)) = true := decide_eq_true c41
    clear c41
    obtain ⟨y253, hy253⟩ : ∃ y_ : List (S26), y_ = (t222.set (t227 : Int).toNat (⟨(rd_T26 t222 t227).f0, (rd_T26 t222 t227).f1, t250, (rd_T26 t222 t227).f3⟩ : S26)) := ⟨_, rfl⟩
    replace H : (some (y253, t251, t252)) = some (r1, r2, r3) := by first | (rw [hy253]; with_reducible exact H) | (have H2_ := (Option.bind_some _ _).symm.trans H; rw [hy253]; with_reducible exact H2_) | (have H2_ := (Option.bind_some _ _).symm.trans H; with_reducible exact H2_) | with_reducible exact H | (rw [hy253]; exact H) | exact H
    have Ny253 := sk_' hy253
    clear hy253
    simp only [Option.some.injEq, Prod.mk.injEq] at H
    obtain ⟨rfl, rfl, rfl⟩ := H
    go_enter Try.func75, Try.ntmps75
    go_wp2_with (first | ((with_reducible refine xj_' (f := 129) rfl ?_); refine goesL_ (some 6) rfl rfl Try.func129 (by kernel_rfl) rfl #[.pointer (some ⟨g, 0, none⟩)] rfl (by (try simp only [xm_', xc_', xn_']); first | done | rfl | (simp only [xd_', xt_']; rfl)) ?_; (with_reducible refine (spec_l8Draw.calls k g s0_0 s0_1 s0_2 t222 t225 t226 w0 _ ?side1 ?side2 A2.out).mono ?_); (case side1 => repeat (first | (with_reducible first | exact HI0.out | apply IsS157.alloc | apply IsS157.drewN | apply IsS157.drew | apply IsS157.set_1 | apply IsS157.set_2) | exact HI0.out)); (case side2 => repeat (first | (with_reducible first | exact HB.out | apply pa_' | apply pn_' | apply pd_' | refine pt_' ?_ (IsS157.ge HI0.out)) | exact HB.out)); rintro e w43 ⟨v223, rfl, ho0, hi, hb, hk⟩; refine ⟨_, rfl, ?_⟩; have n0_ := sk_' (Kd.R_lower ho0 (keep_size (w := w) (g := g) (row := none) (by repeat (first | (with_reducible first | exact HK.out | apply KeepBut.set_ | apply keep_drewN | apply keep_drew | apply keep_alloc) | exact HK.out)))); have n1_ := sk_' (KeepBut.trans (by repeat (first | (with_reducible first | exact HK.out | apply KeepBut.set_ | apply keep_drewN | apply keep_drew | apply keep_alloc) | exact HK.out)) hk (.inl rfl)); have n2_ := sk_' (hb); have n3_ := sk_' (hi); clear HK; clear HB; clear HI0; have HO224 := n0_; have HK := n1_; have HB := n2_; have HI0 := n3_; clear n0_ n1_ n2_ n3_; (try clear hb); (try clear hb2); (try clear hk); (try clear hi); (try clear ho0); obtain ⟨Ao44, co44, eo44⟩ := Kd.R_slice HO224.out; subst eo44) | ((with_reducible refine xj_' (f := 91) rfl ?_); refine goesL_ (some 14) rfl rfl Try.func91 (by kernel_rfl) rfl #[.pointer (some ⟨g, 0, none⟩), .int .i64 (t222.length : Int)] rfl (by (try simp only [xm_', xc_', xn_']); first | done | rfl | (simp only [xd_', xt_']; rfl)) ?_; (with_reducible refine (spec_l1Below.calls g s0_0 t225 t226 (t222.length : Int) t227 t228 t229 w0 _ ?side1 ?side2 A6.out).mono ?_); (case side1 => repeat (first | (with_reducible first | exact HI0.out | apply IsS157.alloc | apply IsS157.drewN | apply IsS157.drew | apply IsS157.set_1 | apply IsS157.set_2) | exact HI0.out)); (case side2 => repeat (first | (with_reducible first | exact HB.out | apply pa_' | apply pn_' | apply pd_' | refine pt_' ?_ (IsS157.ge HI0.out)) | exact HB.out)); rintro e w45 ⟨rfl, hi, hb, hk⟩; refine ⟨_, rfl, ?_⟩; have n0_ := sk_' (xi_' (Kd.R_keep (IsS157.apart (show IsS157 w0 _ g s0_0 t225 t226 from by repeat (first | (with_reducible first | exact HI0.out | apply IsS157.alloc | apply IsS157.drewN | apply IsS157.drew | apply IsS157.set_1 | apply IsS157.set_2) | exact HI0.out)) (by (with_reducible repeat (first | apply ra_' | apply rn_' | apply rd1_')); exact HO224.out) (by decide)) hk (fun _ h => h.2)) (fun _ h => h.1)); have n1_ := sk_' (KeepBut.trans (by repeat (first | (with_reducible first | exact HK.out | apply KeepBut.set_ | apply keep_drewN | apply keep_drew | apply keep_alloc) | exact HK.out)) hk (.inl rfl)); have n2_ := sk_' (hb); have n3_ := sk_' (hi); clear HO224; clear HK; clear HB; clear HI0; have HO224 := n0_; have HK := n1_; have HB := n2_; have HI0 := n3_; clear n0_ n1_ n2_ n3_; (try clear hb); (try clear hb2); (try clear hk); (try clear hi)) | ((with_reducible refine xj_' (f := 91) rfl ?_); refine goesL_ (some 16) rfl rfl Try.func91 (by kernel_rfl) rfl #[.pointer (some ⟨g, 0, none⟩), .int .i64 9] rfl (by (try simp only [xm_', xc_', xn_']); first | done | rfl | (simp only [xd_', xt_']; rfl)) ?_; (with_reducible refine (spec_l1Below.calls g s0_0 t228 t229 9 t230 t231 t232 w0 _ ?side1 ?side2 A7.out).mono ?_); (case side1 => repeat (first | (with_reducible first | exact HI0.out | apply IsS157.alloc | apply IsS157.drewN | apply IsS157.drew | apply IsS157.set_1 | apply IsS157.set_2) | exact HI0.out)); (case side2 => repeat (first | (with_reducible first | exact HB.out | apply pa_' | apply pn_' | apply pd_' | refine pt_' ?_ (IsS157.ge HI0.out)) | exact HB.out)); rintro e w46 ⟨rfl, hi, hb, hk⟩; refine ⟨_, rfl, ?_⟩; have n0_ := sk_' (xi_' (Kd.R_keep (IsS157.apart (show IsS157 w0 _ g s0_0 t228 t229 from by repeat (first | (with_reducible first | exact HI0.out | apply IsS157.alloc | apply IsS157.drewN | apply IsS157.drew | apply IsS157.set_1 | apply IsS157.set_2) | exact HI0.out)) (by (with_reducible repeat (first | apply ra_' | apply rn_' | apply rd1_')); exact HO224.out) (by decide)) hk (fun _ h => h.2)) (fun _ h => h.1)); have n1_ := sk_' (KeepBut.trans (by repeat (first | (with_reducible first | exact HK.out | apply KeepBut.set_ | apply keep_drewN | apply keep_drew | apply keep_alloc) | exact HK.out)) hk (.inl rfl)); have n2_ := sk_' (hb); have n3_ := sk_' (hi); clear HO224; clear HK; clear HB; clear HI0; have HO224 := n0_; have HK := n1_; have HB := n2_; have HI0 := n3_; clear n0_ n1_ n2_ n3_; (try clear hb); (try clear hb2); (try clear hk); (try clear hi)) | ((with_reducible refine gate_dst (N := 40) rfl ?_); refine Kd.R_lit (Kd.int .i64) _ 3 ?hg (N := 40) ?hd (xs := ([20, 108, 109] : List Int)) (inner := [.int .i64 20, .int .i64 108, .int .i64 109]) (ok := fun _ => True) (okp := fun _ => True) ?hr ?hp (fun _ hk => hk) trivial (Below.refl _ _) (Nat.le_refl _) (by simp) ?_; (case hd => rfl); (case hg => rfl); (case hr => first | (go_simp; done) | (go_simp; rfl)); (case hp => exact (Reps.one (show Kd.M (Kd.int .i64) _ _ _ 20 [.int .i64 20] from rfl) (Reps.one (show Kd.M (Kd.int .i64) _ _ _ 108 [.int .i64 108] from rfl) (Reps.one (show Kd.M (Kd.int .i64) _ _ _ 109 [.int .i64 109] from rfl) (Reps.none _ _))))); intro v248 w47 ho48 hb hg_ hnew_; clear hg_ hnew_; (first | rw [← Ny247.out] at ho48 | (simp only [Int.reduceToNat] at ho48; rw [← Ny247.out] at ho48)); have n0_ := sk_' (xb_' (by (with_reducible repeat (first | apply ra_' | apply rn_' | apply rd1_')); exact HO224.out) hb); have n1_ := sk_' (Kd.R_lower ho48 (keep_size (w := w) (g := g) (row := none) (by repeat (first | (with_reducible first | exact HK.out | apply KeepBut.set_ | apply keep_drewN | apply keep_drew | apply keep_alloc) | exact HK.out)))); have n2_ := sk_' (IsS157.below (by repeat (first | (with_reducible first | exact HI0.out | apply IsS157.alloc | apply IsS157.drewN | apply IsS157.drew | apply IsS157.set_1 | apply IsS157.set_2) | exact HI0.out)) hb); have n3_ := sk_' (KeepBut.trans (by repeat (first | (with_reducible first | exact HK.out | apply KeepBut.set_ | apply keep_drewN | apply keep_drew | apply keep_alloc) | exact HK.out)) (KeepBut.of_below hb g none) (.inl rfl)); have n4_ := sk_' (pp_' (by repeat (first | (with_reducible first | exact HB.out | apply pa_' | apply pn_' | apply pd_' | refine pt_' ?_ (IsS157.ge HI0.out)) | exact HB.out)) hb); clear HO224; clear HI0; clear HK; clear HB; have HO224 := n0_; have HO249 := n1_; have HI0 := n2_; have HK := n3_; have HB := n4_; clear n0_ n1_ n2_ n3_ n4_; clear hb ho48; obtain ⟨Ao49, co49, eo49⟩ := Kd.R_slice HO249.out; subst eo49) | ((with_reducible refine xj_' (f := 78) rfl ?_); refine goesL_ (some 41) rfl rfl Try.func78 (by kernel_rfl) rfl #[.pointer (some ⟨g, 0, none⟩), .slice Ao49 y247.length co49] rfl (by (try simp only [xm_', xc_', xn_']); first | done | rfl | (simp only [xd_', xt_']; rfl)) ?_; (with_reducible refine (spec_l1Int.calls g s0_0 t231 t232 _ _ y247 t250 t251 t252 w0 _ ?side1 ?side2 ?side3 ?side4 ?side5 A39.out).mono ?_); (case side1 => repeat (first | (with_reducible first | exact HI0.out | apply IsS157.alloc | apply IsS157.drewN | apply IsS157.drew | apply IsS157.set_1 | apply IsS157.set_2) | exact HI0.out)); (case side2 => repeat (first | (with_reducible first | exact HB.out | apply pa_' | apply pn_' | apply pd_' | refine pt_' ?_ (IsS157.ge HI0.out)) | exact HB.out)); (case side3 => repeat (first | exact (xr_' HO249.out).2.2 | (with_reducible refine xg_' ?_ _) | (with_reducible refine xe_' ?_ _) | (with_reducible refine xf_' ?_))); (case side4 => exact (xr_' HO249.out).2.1); (case side5 => exact far_slice (IsS157.own_ne HI0.out HO249.out (by decide))); rintro e w50 ⟨rfl, hi, hb, hk⟩; refine ⟨_, rfl, ?_⟩; have n0_ := sk_' (xi_' (Kd.R_keep (IsS157.apart (show IsS157 w0 _ g s0_0 t231 t232 from by repeat (first | (with_reducible first | exact HI0.out | apply IsS157.alloc | apply IsS157.drewN | apply IsS157.drew | apply IsS157.set_1 | apply IsS157.set_2) | exact HI0.out)) (by (with_reducible repeat (first | apply ra_' | apply rn_' | apply rd1_')); exact HO224.out) (by decide)) hk (fun _ h => h.2)) (fun _ h => h.1)); have n1_ := sk_' (xi_' (Kd.R_keep (IsS157.apart (show IsS157 w0 _ g s0_0 t231 t232 from by repeat (first | (with_reducible first | exact HI0.out | apply IsS157.alloc | apply IsS157.drewN | apply IsS157.drew | apply IsS157.set_1 | apply IsS157.set_2) | exact HI0.out)) (by (with_reducible repeat (first | apply ra_' | apply rn_' | apply rd1_')); exact HO249.out) (by decide)) hk (fun _ h => h.2)) (fun _ h => h.1)); have n2_ := sk_' (KeepBut.trans (by repeat (first | (with_reducible first | exact HK.out | apply KeepBut.set_ | apply keep_drewN | apply keep_drew | apply keep_alloc) | exact HK.out)) hk (.inl rfl)); have n3_ := sk_' (hb); have n4_ := sk_' (hi); clear HO224; clear HO249; clear HK; clear HB; clear HI0; have HO224 := n0_; have HO249 := n1_; have HK := n2_; have HB := n3_; have HI0 := n4_; clear n0_ n1_ n2_ n3_ n4_; (try clear hb); (try clear hb2); (try clear hk); (try clear hi); have p42 : 0 ≤ (t227 : Int) := od_' (by first | (with_reducible assumption) | assumption); have q42 : (t227 : Int) < ((t222.length : Int) : Int) := od_' (by first | (with_reducible assumption) | assumption); obtain ⟨go42, co42, eo42, gb42, gl42, cl42, HG42⟩ := Kd.R_form HO224.out (by omega); (first | cases eo42 | (injection eo42 with ea_ en_ ec_; (first | subst ea_ | (injection ea_ with ea_; subst ea_)); subst ec_; clear en_)); have GB42 := sk_' gb42; have GG42 := sk_' HG42; clear gb42 gl42 HG42; obtain ⟨ce42, hcl42, hM42, hcc42, hfr42⟩ := Kd.R_elem HO224.out z26 (t227 : Int) p42 q42; obtain rfl := k26_openM hM42; have hx42_0 : w50.cell? ⟨go42, (t227 : Int).toNat * 4, none⟩ = some (.int .i64 ((rd_T26 t222 t227).f0)) := hcc42 0 _ rfl; have hx42_1 : w50.cell? ⟨go42, (t227 : Int).toNat * 4 + 1, none⟩ = some (.int .i64 ((rd_T26 t222 t227).f1)) := hcc42 1 _ rfl; have hx42_2 : w50.cell? ⟨go42, (t227 : Int).toNat * 4 + 2, none⟩ = some (.int .i64 ((rd_T26 t222 t227).f2)) := hcc42 2 _ rfl; have hx42_3 : w50.cell? ⟨go42, (t227 : Int).toNat * 4 + 3, none⟩ = some (.int .i64 ((rd_T26 t222 t227).f3)) := hcc42 3 _ rfl; have hf42_0 : w50.frozen? ⟨go42, (t227 : Int).toNat * 4, none⟩ = false := hfr42 0; have hf42_1 : w50.frozen? ⟨go42, (t227 : Int).toNat * 4 + 1, none⟩ = false := hfr42 1; have hf42_2 : w50.frozen? ⟨go42, (t227 : Int).toNat * 4 + 2, none⟩ = false := hfr42 2; have hf42_3 : w50.frozen? ⟨go42, (t227 : Int).toNat * 4 + 3, none⟩ = false := hfr42 3; clear hcl42 hcc42 hfr42 hM42; replace p42 := eq_true p42; replace q42 := eq_true q42; have HX51 := sk_' (show Kd.R k26 26 w50 w.heap.size (fun _ => True) (.slice (some ⟨go42, 0, none⟩) t222.length co44) t222 from (by (with_reducible repeat (first | apply ra_' | apply rn_' | apply rd1_')); exact HO224.out)); obtain ⟨ce51, hcl51, hM51, hcc51, hfr51⟩ := Kd.R_elem HX51.out z26 (t227 : Int) (od_' (by first | (with_reducible assumption) | assumption)) (by have h_ : (t227 : Int) < ((t222.length : Int) : Int) := od_' (by first | (with_reducible assumption) | assumption); first | exact h_ | (have e_ := (xr_' HO224.out).1; omega) | simpa using h_); obtain rfl := k26_openM hM51; have HP51 := Kd.R_seg HX51.out (t227 : Int) (od_' (by first | (with_reducible assumption) | assumption)) (by have h_ : (t227 : Int) < ((t222.length : Int) : Int) := od_' (by first | (with_reducible assumption) | assumption); first | exact h_ | (have e_ := (xr_' HO224.out).1; omega) | simpa using h_) (seg := [.int .i64 t250]) (j := 2) hcl51 hcc51 (show 3 ≤ 4 from by decide) (x' := (⟨(rd_T26 t222 t227).f0, (rd_T26 t222 t227).f1, t250, (rd_T26 t222 t227).f3⟩ : S26)) (k26_mkM _ _ _ (⟨(rd_T26 t222 t227).f0, (rd_T26 t222 t227).f1, t250, (rd_T26 t222 t227).f3⟩ : S26) ) (fun _ hk => hk); have hx51_2 := hcc51 2 _ rfl; (try simp only [show (k26).sz = 4 from rfl, Nat.mul_one, Nat.add_zero] at hx51_2); have hf51_2 := hfr51 2; (try simp only [show (k26).sz = 4 from rfl, Nat.mul_one, Nat.add_zero] at hf51_2); clear hcl51 hcc51 hfr51 hM51) | ((with_reducible refine gate_store (t := 3) (p := 43) rfl ?_); refine store_event (t := 3) (p := 43) (v := ?vo_w52) (w1 := (w50.setCell ⟨go42, (t227 : Int).toNat * 4 + 2, none⟩ (.int .i64 t250))) ?hg ?ho ?hn ?hr ?_; (case ho => rfl); (case hg => rfl); (case hn => rfl); (case hr => first | (go_simp; done) | (go_simp; rfl)); intro w52 hw; have hg : w50.grownBy w52 (some go42) := (by rw [hw]; exact HP51.2); have hp_ : Kd.R k26 26 w52 w.heap.size (fun _ => True) (.slice (some ⟨go42, 0, none⟩) t222.length co44) y253 := (by rw [hw, Ny253.out]; exact HP51.1); clear HP51; have n0_ := sk_' (IsS157.grown (by repeat (first | (with_reducible first | exact HI0.out | apply IsS157.alloc | apply IsS157.drewN | apply IsS157.drew | apply IsS157.set_1 | apply IsS157.set_2) | exact HI0.out)) hg (IsS157.own_ne HI0.out HO224.out (by decide))); have n1_ := sk_' (hp_); have n2_ := sk_' (Kd.R_over' (v := (.slice (some ⟨go42, 0, none⟩) t222.length co44)) (by (with_reducible repeat (first | apply ra_' | apply rn_' | apply rd1_')); exact HO249.out) (Kd.R_typed HO224.out) (by decide) hg); have n3_ := sk_' ((by rw [hw]; exact pt_' (HB.out) (Nat.le_trans HL.out GB42.out) : Below w0.heap.size w0 w52)); have n4_ := sk_' (KeepBut.trans (by repeat (first | (with_reducible first | exact HK.out | apply KeepBut.set_ | apply keep_drewN | apply keep_drew | apply keep_alloc) | exact HK.out)) (KeepBut.of_grown hg g) (Kd.R_base2 HO224.out)); clear HI0; clear HO224; clear HO249; clear HB; clear HK; have HI0 := n0_; have HO224 := n1_; have HO249 := n2_; have HB := n3_; have HK := n4_; clear n0_ n1_ n2_ n3_ n4_; clear hg hw hp_))
    go_ret
    exact ⟨_, by first | rfl | (simp [errW_none, errW_some] <;> rfl) | (simp [*, errW_none, errW_some] <;> rfl), by (with_reducible repeat (first | apply ra_' | apply rn_' | apply rd1_')); exact HO224.out, by repeat (first | (with_reducible first | exact HI0.out | apply IsS157.alloc | apply IsS157.drewN | apply IsS157.drew | apply IsS157.set_1 | apply IsS157.set_2) | exact HI0.out), by repeat (first | (with_reducible first | exact HB.out | apply pa_' | apply pn_' | apply pd_' | refine pt_' ?_ (IsS157.ge HI0.out)) | exact HB.out), by repeat (first | (with_reducible first | exact HK.out | apply KeepBut.set_ | apply keep_drewN | apply keep_drew | apply keep_alloc) | exact HK.out)⟩
   rw [if_neg c41] at H
   exact absurd H (by simp)
  rw [if_neg c40] at H
  exact absurd H (by simp)
 rw [if_neg c38] at H
 have c38b0 : (t230 == 2) = false := beq_eq_false_iff_ne.mpr c38
 have c38b1 : (t230 != 2) = true := bne_iff_ne.mpr c38
 by_cases c53 : t230 = 3
 ·
  rw [if_pos c53] at H
  have c53b0 : (t230 == 3) = true := beq_iff_eq.mpr c53
  have c53b1 : (t230 != 3) = false := bne_eq_false_iff_eq.mpr c53
  clear c53
  obtain ⟨y254, hy254⟩ : ∃ y_ : List Int, y_ = (([0, 4, 5] : List Int)) := ⟨_, rfl⟩
  replace H : ((spec_l1Int.f s0_0 t231 t232 y254).bind fun bt257 => (if 0 ≤ t227 then (if t227 < (t222.length : Int) then (some ((t222.set (t227 : Int).toNat (⟨(rd_T26 t222 t227).f0, (rd_T26 t222 t227).f1, (rd_T26 t222 t227).f2, bt257.1⟩ : S26)), bt257.2.1, bt257.2.2)) else (none)) else (none))) = some (r1, r2, r3) := by first | (rw [hy254]; with_reducible exact H) | (have H2_ := (Option.bind_some _ _).symm.trans H; rw [hy254]; with_reducible exact H2_) | (have H2_ := (Option.bind_some _ _).symm.trans H; with_reducible exact H2_) | with_reducible exact H | (rw [hy254]; exact H) | exact H
  have Ny254 := sk_' hy254
  clear hy254
  replace H := bs_' H
  obtain ⟨⟨t257, t258, t259⟩, A540, H⟩ := H
  try dsimp only at H
  have A54 := sk_' A540
  clear A540
  by_cases c55 : 0 ≤ t227
  ·
   rw [if_pos c55] at H
   have c55b0 : decide (0 ≤ t227) = true := decide_eq_true c55
   clear c55
   by_cases c56 : t227 < (t222.length : Int)
   ·
    rw [if_pos c56] at H
    have c56b0 : decide (t227 < (t222.length : Int)) = true := decide_eq_true c56
    clear c56
    obtain ⟨y260, hy260⟩ : ∃ y_ : List (S26), y_ = (t222.set (t227 : Int).toNat (⟨(rd_T26 t222 t227).f0, (rd_T26 t222 t227).f1, (rd_T26 t222 t227).f2, t257⟩ : S26)) := ⟨_, rfl⟩
    replace H : (some (y260, t258, t259)) = some (r1, r2, r3) := by first | (rw [hy260]; with_reducible exact H) | (have H2_ := (Option.bind_some _ _).symm.trans H; rw [hy260]; with_reducible exact H2_) | (have H2_ := (Option.bind_some _ _).symm.trans H; with_reducible exact H2_) | with_reducible exact H | (rw [hy260]; exact H) | exact H
    have Ny260 := sk_' hy260
    clear hy260
    simp only [Option.some.injEq, Prod.mk.injEq] at H
    obtain ⟨rfl, rfl, rfl⟩ := H
    go_enter Try.func75, Try.ntmps75
    go_wp2_with (first | ((with_reducible refine xj_' (f := 129) rfl ?_); refine goesL_ (some 6) rfl rfl Try.func129 (by kernel_rfl) rfl #[.pointer (some ⟨g, 0, none⟩)] rfl (by (try simp only [xm_', xc_', xn_']); first | done | rfl | (simp only [xd_', xt_']; rfl)) ?_; (with_reducible refine (spec_l8Draw.calls k g s0_0 s0_1 s0_2 t222 t225 t226 w0 _ ?side1 ?side2 A2.out).mono ?_); (case side1 => repeat (first | (with_reducible first | exact HI0.out | apply IsS157.alloc | apply IsS157.drewN | apply IsS157.drew | apply IsS157.set_1 | apply IsS157.set_2) | exact HI0.out)); (case side2 => repeat (first | (with_reducible first | exact HB.out | apply pa_' | apply pn_' | apply pd_' | refine pt_' ?_ (IsS157.ge HI0.out)) | exact HB.out)); rintro e w58 ⟨v223, rfl, ho0, hi, hb, hk⟩; refine ⟨_, rfl, ?_⟩; have n0_ := sk_' (Kd.R_lower ho0 (keep_size (w := w) (g := g) (row := none) (by repeat (first | (with_reducible first | exact HK.out | apply KeepBut.set_ | apply keep_drewN | apply keep_drew | apply keep_alloc) | exact HK.out)))); have n1_ := sk_' (KeepBut.trans (by repeat (first | (with_reducible first | exact HK.out | apply KeepBut.set_ | apply keep_drewN | apply keep_drew | apply keep_alloc) | exact HK.out)) hk (.inl rfl)); have n2_ := sk_' (hb); have n3_ := sk_' (hi); clear HK; clear HB; clear HI0; have HO224 := n0_; have HK := n1_; have HB := n2_; have HI0 := n3_; clear n0_ n1_ n2_ n3_; (try clear hb); (try clear hb2); (try clear hk); (try clear hi); (try clear ho0); obtain ⟨Ao59, co59, eo59⟩ := Kd.R_slice HO224.out; subst eo59) | ((with_reducible refine xj_' (f := 91) rfl ?_); refine goesL_ (some 14) rfl rfl Try.func91 (by kernel_rfl) rfl #[.pointer (some ⟨g, 0, none⟩), .int .i64 (t222.length : Int)] rfl (by (try simp only [xm_', xc_', xn_']); first | done | rfl | (simp only [xd_', xt_']; rfl)) ?_; (with_reducible refine (spec_l1Below.calls g s0_0 t225 t226 (t222.length : Int) t227 t228 t229 w0 _ ?side1 ?side2 A6.out).mono ?_); (case side1 => repeat (first | (with_reducible first | exact HI0.out | apply IsS157.alloc | apply IsS157.drewN | apply IsS157.drew | apply IsS157.set_1 | apply IsS157.set_2) | exact HI0.out)); (case side2 => repeat (first | (with_reducible first | exact HB.out | apply pa_' | apply pn_' | apply pd_' | refine pt_' ?_ (IsS157.ge HI0.out)) | exact HB.out)); rintro e w60 ⟨rfl, hi, hb, hk⟩; refine ⟨_, rfl, ?_⟩; have n0_ := sk_' (xi_' (Kd.R_keep (IsS157.apart (show IsS157 w0 _ g s0_0 t225 t226 from by repeat (first | (with_reducible first | exact HI0.out | apply IsS157.alloc | apply IsS157.drewN | apply IsS157.drew | apply IsS157.set_1 | apply IsS157.set_2) | exact HI0.out)) (by (with_reducible repeat (first | apply ra_' | apply rn_' | apply rd1_')); exact HO224.out) (by decide)) hk (fun _ h => h.2)) (fun _ h => h.1)); have n1_ := sk_' (KeepBut.trans (by repeat (first | (with_reducible first | exact HK.out | apply KeepBut.set_ | apply keep_drewN | apply keep_drew | apply keep_alloc) | exact HK.out)) hk (.inl rfl)); have n2_ := sk_' (hb); have n3_ := sk_' (hi); clear HO224; clear HK; clear HB; clear HI0; have HO224 := n0_; have HK := n1_; have HB := n2_; have HI0 := n3_; clear n0_ n1_ n2_ n3_; (try clear hb); (try clear hb2); (try clear hk); (try clear hi)) | ((with_reducible refine xj_' (f := 91) rfl ?_); refine goesL_ (some 16) rfl rfl Try.func91 (by kernel_rfl) rfl #[.pointer (some ⟨g, 0, none⟩), .int .i64 9] rfl (by (try simp only [xm_', xc_', xn_']); first | done | rfl | (simp only [xd_', xt_']; rfl)) ?_; (with_reducible refine (spec_l1Below.calls g s0_0 t228 t229 9 t230 t231 t232 w0 _ ?side1 ?side2 A7.out).mono ?_); (case side1 => repeat (first | (with_reducible first | exact HI0.out | apply IsS157.alloc | apply IsS157.drewN | apply IsS157.drew | apply IsS157.set_1 | apply IsS157.set_2) | exact HI0.out)); (case side2 => repeat (first | (with_reducible first | exact HB.out | apply pa_' | apply pn_' | apply pd_' | refine pt_' ?_ (IsS157.ge HI0.out)) | exact HB.out)); rintro e w61 ⟨rfl, hi, hb, hk⟩; refine ⟨_, rfl, ?_⟩; have n0_ := sk_' (xi_' (Kd.R_keep (IsS157.apart (show IsS157 w0 _ g s0_0 t228 t229 from by repeat (first | (with_reducible first | exact HI0.out | apply IsS157.alloc | apply IsS157.drewN | apply IsS157.drew | apply IsS157.set_1 | apply IsS157.set_2) | exact HI0.out)) (by (with_reducible repeat (first | apply ra_' | apply rn_' | apply rd1_')); exact HO224.out) (by decide)) hk (fun _ h => h.2)) (fun _ h => h.1)); have n1_ := sk_' (KeepBut.trans (by repeat (first | (with_reducible first | exact HK.out | apply KeepBut.set_ | apply keep_drewN | apply keep_drew | apply keep_alloc) | exact HK.out)) hk (.inl rfl)); have n2_ := sk_' (hb); have n3_ := sk_' (hi); clear HO224; clear HK; clear HB; clear HI0; have HO224 := n0_; have HK := n1_; have HB := n2_; have HI0 := n3_; clear n0_ n1_ n2_ n3_; (try clear hb); (try clear hb2); (try clear hk); (try clear hi)) | ((with_reducible refine gate_dst (N := 49) rfl ?_); refine Kd.R_lit (Kd.int .i64) _ 3 ?hg (N := 49) ?hd (xs := ([0, 4, 5] : List Int)) (inner := [.int .i64 0, .int .i64 4, .int .i64 5]) (ok := fun _ => True) (okp := fun _ => True) ?hr ?hp (fun _ hk => hk) trivial (Below.refl _ _) (Nat.le_refl _) (by simp) ?_; (case hd => rfl); (case hg => rfl); (case hr => first | (go_simp; done) | (go_simp; rfl)); (case hp => exact (Reps.one (show Kd.M (Kd.int .i64) _ _ _ 0 [.int .i64 0] from rfl) (Reps.one (show Kd.M (Kd.int .i64) _ _ _ 4 [.int .i64 4] from rfl) (Reps.one (show Kd.M (Kd.int .i64) _ _ _ 5 [.int .i64 5] from rfl) (Reps.none _ _))))); intro v255 w62 ho63 hb hg_ hnew_; clear hg_ hnew_; (first | rw [← Ny254.out] at ho63 | (simp only [Int.reduceToNat] at ho63; rw [← Ny254.out] at ho63)); have n0_ := sk_' (xb_' (by (with_reducible repeat (first | apply ra_' | apply rn_' | apply rd1_')); exact HO224.out) hb); have n1_ := sk_' (Kd.R_lower ho63 (keep_size (w := w) (g := g) (row := none) (by repeat (first | (with_reducible first | exact HK.out | apply KeepBut.set_ | apply keep_drewN | apply keep_drew | apply keep_alloc) | exact HK.out)))); have n2_ := sk_' (IsS157.below (by repeat (first | (with_reducible first | exact HI0.out | apply IsS157.alloc | apply IsS157.drewN | apply IsS157.drew | apply IsS157.set_1 | apply IsS157.set_2) | exact HI0.out)) hb); have n3_ := sk_' (KeepBut.trans (by repeat (first | (with_reducible first | exact HK.out | apply KeepBut.set_ | apply keep_drewN | apply keep_drew | apply keep_alloc) | exact HK.out)) (KeepBut.of_below hb g none) (.inl rfl)); have n4_ := sk_' (pp_' (by repeat (first | (with_reducible first | exact HB.out | apply pa_' | apply pn_' | apply pd_' | refine pt_' ?_ (IsS157.ge HI0.out)) | exact HB.out)) hb); clear HO224; clear HI0; clear HK; clear HB; have HO224 := n0_; have HO256 := n1_; have HI0 := n2_; have HK := n3_; have HB := n4_; clear n0_ n1_ n2_ n3_ n4_; clear hb ho63; obtain ⟨Ao64, co64, eo64⟩ := Kd.R_slice HO256.out; subst eo64) | ((with_reducible refine xj_' (f := 78) rfl ?_); refine goesL_ (some 50) rfl rfl Try.func78 (by kernel_rfl) rfl #[.pointer (some ⟨g, 0, none⟩), .slice Ao64 y254.length co64] rfl (by (try simp only [xm_', xc_', xn_']); first | done | rfl | (simp only [xd_', xt_']; rfl)) ?_; (with_reducible refine (spec_l1Int.calls g s0_0 t231 t232 _ _ y254 t257 t258 t259 w0 _ ?side1 ?side2 ?side3 ?side4 ?side5 A54.out).mono ?_); (case side1 => repeat (first | (with_reducible first | exact HI0.out | apply IsS157.alloc | apply IsS157.drewN | apply IsS157.drew | apply IsS157.set_1 | apply IsS157.set_2) | exact HI0.out)); (case side2 => repeat (first | (with_reducible first | exact HB.out | apply pa_' | apply pn_' | apply pd_' | refine pt_' ?_ (IsS157.ge HI0.out)) | exact HB.out)); (case side3 => repeat (first | exact (xr_' HO256.out).2.2 | (with_reducible refine xg_' ?_ _) | (with_reducible refine xe_' ?_ _) | (with_reducible refine xf_' ?_))); (case side4 => exact (xr_' HO256.out).2.1); (case side5 => exact far_slice (IsS157.own_ne HI0.out HO256.out (by decide))); rintro e w65 ⟨rfl, hi, hb, hk⟩; refine ⟨_, rfl, ?_⟩; have n0_ := sk_' (xi_' (Kd.R_keep (IsS157.apart (show IsS157 w0 _ g s0_0 t231 t232 from by repeat (first | (with_reducible first | exact HI0.out | apply IsS157.alloc | apply IsS157.drewN | apply IsS157.drew | apply IsS157.set_1 | apply IsS157.set_2) | exact HI0.out)) (by (with_reducible repeat (first | apply ra_' | apply rn_' | apply rd1_')); exact HO224.out) (by decide)) hk (fun _ h => h.2)) (fun _ h => h.1)); have n1_ := sk_' (xi_' (Kd.R_keep (IsS157.apart (show IsS157 w0 _ g s0_0 t231 t232 from by repeat (first | (with_reducible first | exact HI0.out | apply IsS157.alloc | apply IsS157.drewN | apply IsS157.drew | apply IsS157.set_1 | apply IsS157.set_2) | exact HI0.out)) (by (with_reducible repeat (first | apply ra_' | apply rn_' | apply rd1_')); exact HO256.out) (by decide)) hk (fun _ h => h.2)) (fun _ h => h.1)); have n2_ := sk_' (KeepBut.trans (by repeat (first | (with_reducible first | exact HK.out | apply KeepBut.set_ | apply keep_drewN | apply keep_drew | apply keep_alloc) | exact HK.out)) hk (.inl rfl)); have n3_ := sk_' (hb); have n4_ := sk_' (hi); clear HO224; clear HO256; clear HK; clear HB; clear HI0; have HO224 := n0_; have HO256 := n1_; have HK := n2_; have HB := n3_; have HI0 := n4_; clear n0_ n1_ n2_ n3_ n4_; (try clear hb); (try clear hb2); (try clear hk); (try clear hi); have p57 : 0 ≤ (t227 : Int) := od_' (by first | (with_reducible assumption) | assumption); have q57 : (t227 : Int) < ((t222.length : Int) : Int) := od_' (by first | (with_reducible assumption) | assumption); obtain ⟨go57, co57, eo57, gb57, gl57, cl57, HG57⟩ := Kd.R_form HO224.out (by omega); (first | cases eo57 | (injection eo57 with ea_ en_ ec_; (first | subst ea_ | (injection ea_ with ea_; subst ea_)); subst ec_; clear en_)); have GB57 := sk_' gb57; have GG57 := sk_' HG57; clear gb57 gl57 HG57; obtain ⟨ce57, hcl57, hM57, hcc57, hfr57⟩ := Kd.R_elem HO224.out z26 (t227 : Int) p57 q57; obtain rfl := k26_openM hM57; have hx57_0 : w65.cell? ⟨go57, (t227 : Int).toNat * 4, none⟩ = some (.int .i64 ((rd_T26 t222 t227).f0)) := hcc57 0 _ rfl; have hx57_1 : w65.cell? ⟨go57, (t227 : Int).toNat * 4 + 1, none⟩ = some (.int .i64 ((rd_T26 t222 t227).f1)) := hcc57 1 _ rfl; have hx57_2 : w65.cell? ⟨go57, (t227 : Int).toNat * 4 + 2, none⟩ = some (.int .i64 ((rd_T26 t222 t227).f2)) := hcc57 2 _ rfl; have hx57_3 : w65.cell? ⟨go57, (t227 : Int).toNat * 4 + 3, none⟩ = some (.int .i64 ((rd_T26 t222 t227).f3)) := hcc57 3 _ rfl; have hf57_0 : w65.frozen? ⟨go57, (t227 : Int).toNat * 4, none⟩ = false := hfr57 0; have hf57_1 : w65.frozen? ⟨go57, (t227 : Int).toNat * 4 + 1, none⟩ = false := hfr57 1; have hf57_2 : w65.frozen? ⟨go57, (t227 : Int).toNat * 4 + 2, none⟩ = false := hfr57 2; have hf57_3 : w65.frozen? ⟨go57, (t227 : Int).toNat * 4 + 3, none⟩ = false := hfr57 3; clear hcl57 hcc57 hfr57 hM57; replace p57 := eq_true p57; replace q57 := eq_true q57; have HX66 := sk_' (show Kd.R k26 26 w65 w.heap.size (fun _ => True) (.slice (some ⟨go57, 0, none⟩) t222.length co59) t222 from (by (with_reducible repeat (first | apply ra_' | apply rn_' | apply rd1_')); exact HO224.out)); obtain ⟨ce66, hcl66, hM66, hcc66, hfr66⟩ := Kd.R_elem HX66.out z26 (t227 : Int) (od_' (by first | (with_reducible assumption) | assumption)) (by have h_ : (t227 : Int) < ((t222.length : Int) : Int) := od_' (by first | (with_reducible assumption) | assumption); first | exact h_ | (have e_ := (xr_' HO224.out).1; omega) | simpa using h_); obtain rfl := k26_openM hM66; have HP66 := Kd.R_seg HX66.out (t227 : Int) (od_' (by first | (with_reducible assumption) | assumption)) (by have h_ : (t227 : Int) < ((t222.length : Int) : Int) := od_' (by first | (with_reducible assumption) | assumption); first | exact h_ | (have e_ := (xr_' HO224.out).1; omega) | simpa using h_) (seg := [.int .i64 t257]) (j := 3) hcl66 hcc66 (show 4 ≤ 4 from by decide) (x' := (⟨(rd_T26 t222 t227).f0, (rd_T26 t222 t227).f1, (rd_T26 t222 t227).f2, t257⟩ : S26)) (k26_mkM _ _ _ (⟨(rd_T26 t222 t227).f0, (rd_T26 t222 t227).f1, (rd_T26 t222 t227).f2, t257⟩ : S26) ) (fun _ hk => hk); have hx66_3 := hcc66 3 _ rfl; (try simp only [show (k26).sz = 4 from rfl, Nat.mul_one, Nat.add_zero] at hx66_3); have hf66_3 := hfr66 3; (try simp only [show (k26).sz = 4 from rfl, Nat.mul_one, Nat.add_zero] at hf66_3); clear hcl66 hcc66 hfr66 hM66) | ((with_reducible refine gate_store (t := 3) (p := 52) rfl ?_); refine store_event (t := 3) (p := 52) (v := ?vo_w67) (w1 := (w65.setCell ⟨go57, (t227 : Int).toNat * 4 + 3, none⟩ (.int .i64 t257))) ?hg ?ho ?hn ?hr ?_; (case ho => rfl); (case hg => rfl); (case hn => rfl); (case hr => first | (go_simp; done) | (go_simp; rfl)); intro w67 hw; have hg : w65.grownBy w67 (some go57) := (by rw [hw]; exact HP66.2); have hp_ : Kd.R k26 26 w67 w.heap.size (fun _ => True) (.slice (some ⟨go57, 0, none⟩) t222.length co59) y260 := (by rw [hw, Ny260.out]; exact HP66.1); clear HP66; have n0_ := sk_' (IsS157.grown (by repeat (first | (with_reducible first | exact HI0.out | apply IsS157.alloc | apply IsS157.drewN | apply IsS157.drew | apply IsS157.set_1 | apply IsS157.set_2) | exact HI0.out)) hg (IsS157.own_ne HI0.out HO224.out (by decide))); have n1_ := sk_' (hp_); have n2_ := sk_' (Kd.R_over' (v := (.slice (some ⟨go57, 0, none⟩) t222.length co59)) (by (with_reducible repeat (first | apply ra_' | apply rn_' | apply rd1_')); exact HO256.out) (Kd.R_typed HO224.out) (by decide) hg); have n3_ := sk_' ((by rw [hw]; exact pt_' (HB.out) (Nat.le_trans HL.out GB57.out) : Below w0.heap.size w0 w67)); have n4_ := sk_' (KeepBut.trans (by repeat (first | (with_reducible first | exact HK.out | apply KeepBut.set_ | apply keep_drewN | apply keep_drew | apply keep_alloc) | exact HK.out)) (KeepBut.of_grown hg g) (Kd.R_base2 HO224.out)); clear HI0; clear HO224; clear HO256; clear HB; clear HK; have HI0 := n0_; have HO224 := n1_; have HO256 := n2_; have HB := n3_; have HK := n4_; clear n0_ n1_ n2_ n3_ n4_; clear hg hw hp_))
    go_ret
    exact ⟨_, by first | rfl | (simp [errW_none, errW_some] <;> rfl) | (simp [*, errW_none, errW_some] <;> rfl), by (with_reducible repeat (first | apply ra_' | apply rn_' | apply rd1_')); exact HO224.out, by repeat (first | (with_reducible first | exact HI0.out | apply IsS157.alloc | apply IsS157.drewN | apply IsS157.drew | apply IsS157.set_1 | apply IsS157.set_2) | exact HI0.out), by repeat (first | (with_reducible first | exact HB.out | apply pa_' | apply pn_' | apply pd_' | refine pt_' ?_ (IsS157.ge HI0.out)) | exact HB.out), by repeat (first | (with_reducible first | exact HK.out | apply KeepBut.set_ | apply keep_drewN | apply keep_drew | apply keep_alloc) | exact HK.out)⟩
   rw [if_neg c56] at H
   exact absurd H (by simp)
  rw [if_neg c55] at H
  exact absurd H (by simp)
 rw [if_neg c53] at H
 have c53b0 : (t230 == 3) = false := beq_eq_false_iff_ne.mpr c53
 have c53b1 : (t230 != 3) = true := bne_iff_ne.mpr c53
 by_cases c68 : t230 = 4
 ·
  rw [if_pos c68] at H
  have c68b0 : (t230 == 4) = true := beq_iff_eq.mpr c68
  have c68b1 : (t230 != 4) = false := bne_eq_false_iff_eq.mpr c68
  clear c68
  by_cases c69 : 0 < (t222.length : Int)
  ·
   rw [if_pos c69] at H
   have c69b0 : decide (0 < (t222.length : Int)) = true := decide_eq_true c69
   have c69b1 : decide (0 < t222.length) = true := decide_eq_true (by omega)
   clear c69
   by_cases c70 : t222.length < 4398046511104
   ·
    rw [if_pos c70] at H
    have LMc70 := sk_' c70
    clear c70
    obtain ⟨y262, hy262⟩ : ∃ y_ : List (S26), y_ = (t222 ++ [(⟨(rd_T26 t222 0).f0, (rd_T26 t222 0).f1, (rd_T26 t222 0).f2, (rd_T26 t222 0).f3⟩ : S26)]) := ⟨_, rfl⟩
    replace H : (some (y262, t231, t232)) = some (r1, r2, r3) := by first | (rw [hy262]; with_reducible exact H) | (have H2_ := (Option.bind_some _ _).symm.trans H; rw [hy262]; with_reducible exact H2_) | (have H2_ := (Option.bind_some _ _).symm.trans H; with_reducible exact H2_) | with_reducible exact H | (rw [hy262]; exact H) | exact H
    have Ny262 := sk_' hy262
    clear hy262
    simp only [Option.some.injEq, Prod.mk.injEq] at H
    obtain ⟨rfl, rfl, rfl⟩ := H
    go_enter Try.func75, Try.ntmps75
    go_wp2_with (first | ((with_reducible refine xj_' (f := 129) rfl ?_); refine goesL_ (some 6) rfl rfl Try.func129 (by kernel_rfl) rfl #[.pointer (some ⟨g, 0, none⟩)] rfl (by (try simp only [xm_', xc_', xn_']); first | done | rfl | (simp only [xd_', xt_']; rfl)) ?_; (with_reducible refine (spec_l8Draw.calls k g s0_0 s0_1 s0_2 t222 t225 t226 w0 _ ?side1 ?side2 A2.out).mono ?_); (case side1 => repeat (first | (with_reducible first | exact HI0.out | apply IsS157.alloc | apply IsS157.drewN | apply IsS157.drew | apply IsS157.set_1 | apply IsS157.set_2) | exact HI0.out)); (case side2 => repeat (first | (with_reducible first | exact HB.out | apply pa_' | apply pn_' | apply pd_' | refine pt_' ?_ (IsS157.ge HI0.out)) | exact HB.out)); rintro e w71 ⟨v223, rfl, ho0, hi, hb, hk⟩; refine ⟨_, rfl, ?_⟩; have n0_ := sk_' (Kd.R_lower ho0 (keep_size (w := w) (g := g) (row := none) (by repeat (first | (with_reducible first | exact HK.out | apply KeepBut.set_ | apply keep_drewN | apply keep_drew | apply keep_alloc) | exact HK.out)))); have n1_ := sk_' (KeepBut.trans (by repeat (first | (with_reducible first | exact HK.out | apply KeepBut.set_ | apply keep_drewN | apply keep_drew | apply keep_alloc) | exact HK.out)) hk (.inl rfl)); have n2_ := sk_' (hb); have n3_ := sk_' (hi); clear HK; clear HB; clear HI0; have HO224 := n0_; have HK := n1_; have HB := n2_; have HI0 := n3_; clear n0_ n1_ n2_ n3_; (try clear hb); (try clear hb2); (try clear hk); (try clear hi); (try clear ho0); obtain ⟨Ao72, co72, eo72⟩ := Kd.R_slice HO224.out; subst eo72) | ((with_reducible refine xj_' (f := 91) rfl ?_); refine goesL_ (some 14) rfl rfl Try.func91 (by kernel_rfl) rfl #[.pointer (some ⟨g, 0, none⟩), .int .i64 (t222.length : Int)] rfl (by (try simp only [xm_', xc_', xn_']); first | done | rfl | (simp only [xd_', xt_']; rfl)) ?_; (with_reducible refine (spec_l1Below.calls g s0_0 t225 t226 (t222.length : Int) t227 t228 t229 w0 _ ?side1 ?side2 A6.out).mono ?_); (case side1 => repeat (first | (with_reducible first | exact HI0.out | apply IsS157.alloc | apply IsS157.drewN | apply IsS157.drew | apply IsS157.set_1 | apply IsS157.set_2) | exact HI0.out)); (case side2 => repeat (first | (with_reducible first | exact HB.out | apply pa_' | apply pn_' | apply pd_' | refine pt_' ?_ (IsS157.ge HI0.out)) | exact HB.out)); rintro e w73 ⟨rfl, hi, hb, hk⟩; refine ⟨_, rfl, ?_⟩; have n0_ := sk_' (xi_' (Kd.R_keep (IsS157.apart (show IsS157 w0 _ g s0_0 t225 t226 from by repeat (first | (with_reducible first | exact HI0.out | apply IsS157.alloc | apply IsS157.drewN | apply IsS157.drew | apply IsS157.set_1 | apply IsS157.set_2) | exact HI0.out)) (by (with_reducible repeat (first | apply ra_' | apply rn_' | apply rd1_')); exact HO224.out) (by decide)) hk (fun _ h => h.2)) (fun _ h => h.1)); have n1_ := sk_' (KeepBut.trans (by repeat (first | (with_reducible first | exact HK.out | apply KeepBut.set_ | apply keep_drewN | apply keep_drew | apply keep_alloc) | exact HK.out)) hk (.inl rfl)); have n2_ := sk_' (hb); have n3_ := sk_' (hi); clear HO224; clear HK; clear HB; clear HI0; have HO224 := n0_; have HK := n1_; have HB := n2_; have HI0 := n3_; clear n0_ n1_ n2_ n3_; (try clear hb); (try clear hb2); (try clear hk); (try clear hi)) | ((with_reducible refine xj_' (f := 91) rfl ?_); refine goesL_ (some 16) rfl rfl Try.func91 (by kernel_rfl) rfl #[.pointer (some ⟨g, 0, none⟩), .int .i64 9] rfl (by (try simp only [xm_', xc_', xn_']); first | done | rfl | (simp only [xd_', xt_']; rfl)) ?_; (with_reducible refine (spec_l1Below.calls g s0_0 t228 t229 9 t230 t231 t232 w0 _ ?side1 ?side2 A7.out).mono ?_); (case side1 => repeat (first | (with_reducible first | exact HI0.out | apply IsS157.alloc | apply IsS157.drewN | apply IsS157.drew | apply IsS157.set_1 | apply IsS157.set_2) | exact HI0.out)); (case side2 => repeat (first | (with_reducible first | exact HB.out | apply pa_' | apply pn_' | apply pd_' | refine pt_' ?_ (IsS157.ge HI0.out)) | exact HB.out)); rintro e w74 ⟨rfl, hi, hb, hk⟩; refine ⟨_, rfl, ?_⟩; have n0_ := sk_' (xi_' (Kd.R_keep (IsS157.apart (show IsS157 w0 _ g s0_0 t228 t229 from by repeat (first | (with_reducible first | exact HI0.out | apply IsS157.alloc | apply IsS157.drewN | apply IsS157.drew | apply IsS157.set_1 | apply IsS157.set_2) | exact HI0.out)) (by (with_reducible repeat (first | apply ra_' | apply rn_' | apply rd1_')); exact HO224.out) (by decide)) hk (fun _ h => h.2)) (fun _ h => h.1)); have n1_ := sk_' (KeepBut.trans (by repeat (first | (with_reducible first | exact HK.out | apply KeepBut.set_ | apply keep_drewN | apply keep_drew | apply keep_alloc) | exact HK.out)) hk (.inl rfl)); have n2_ := sk_' (hb); have n3_ := sk_' (hi); clear HO224; clear HK; clear HB; clear HI0; have HO224 := n0_; have HK := n1_; have HB := n2_; have HI0 := n3_; clear n0_ n1_ n2_ n3_; (try clear hb); (try clear hb2); (try clear hk); (try clear hi); have p261 : 0 ≤ (0 : Int) := (by omega); have q261 : 0 < (t222.length : Int) := od_' (by first | (with_reducible assumption) | assumption); obtain ⟨ad261, e261, hx261_0, hx261_1, hx261_2, hx261_3⟩ := at_T26 (xr_' HO224.out).2.2 0 p261 q261; cases e261; have qi261 : (0 < t222.length) = True := eq_true (by omega); (try rw [show ((0 : Int)).toNat = 0 from rfl] at hx261_0); (try rw [show 0 * 4 = 0 from rfl] at hx261_0); (try rw [Addr.add_zero'] at hx261_0); (try rw [show ((0 : Int)).toNat = 0 from rfl] at hx261_1); (try rw [show 0 * 4 = 0 from rfl] at hx261_1); (try rw [Addr.add_zero'] at hx261_1); (try rw [show ((0 : Int)).toNat = 0 from rfl] at hx261_2); (try rw [show 0 * 4 = 0 from rfl] at hx261_2); (try rw [Addr.add_zero'] at hx261_2); (try rw [show ((0 : Int)).toNat = 0 from rfl] at hx261_3); (try rw [show 0 * 4 = 0 from rfl] at hx261_3); (try rw [Addr.add_zero'] at hx261_3); replace p261 := eq_true p261; replace q261 := eq_true q261) | ((with_reducible refine gate_builtin (b := .append) (xs := #[.tmp 55, .tmp 59]) rfl ?_); at_builtin; refine Kd.R_append k26 w.heap.size rfl (.tmp 55) (.tmp 59) 24 26 (.agg #[(.int .i64 0), (.int .i64 0), (.int .i64 0), (.int .i64 0)]) 32 rfl Try.underlying24 info26 rfl (by decide) (by omega) (.slice (some ad261) t222.length co72) t222 (⟨(rd_T26 t222 0).f0, (rd_T26 t222 0).f1, (rd_T26 t222 0).f2, (rd_T26 t222 0).f3⟩ : S26) [.int .i64 ((rd_T26 t222 0).f0), .int .i64 ((rd_T26 t222 0).f1), .int .i64 ((rd_T26 t222 0).f2), .int .i64 ((rd_T26 t222 0).f3)] (fun _ => True) (fun _ => False) rfl rfl ?aP (fun _ hk => hk.elim) ?aF ?aO (Below.refl _ _) ?aS ?aL ?_; (case aP => exact k26_mkM _ _ _ (⟨(rd_T26 t222 0).f0, (rd_T26 t222 0).f1, (rd_T26 t222 0).f2, (rd_T26 t222 0).f3⟩ : S26)); (case aF => exact (fun _ _ => trivial)); (case aO => exact (by (with_reducible repeat (first | apply ra_' | apply rn_' | apply rd1_')); exact HO224.out)); (case aS => exact (keep_size (w := w) (g := g) (row := none) (by repeat (first | (with_reducible first | exact HK.out | apply KeepBut.set_ | apply keep_drewN | apply keep_drew | apply keep_alloc) | exact HK.out)))); (case aL => have := LMc70.out; omega); intro v263 w75 ho hb hg hat; rw [← Ny262.out] at ho; have n0_ := sk_' (IsS157.grown (by repeat (first | (with_reducible first | exact HI0.out | apply IsS157.alloc | apply IsS157.drewN | apply IsS157.drew | apply IsS157.set_1 | apply IsS157.set_2) | exact HI0.out)) hg (IsS157.own_ne HI0.out HO224.out (by decide))); have n1_ := sk_' (below_weaken (by repeat (first | (with_reducible first | exact HB.out | apply pa_' | apply pn_' | apply pd_' | refine pt_' ?_ (IsS157.ge HI0.out)) | exact HB.out)) HL.out hb); have n2_ := sk_' (KeepBut.trans (by repeat (first | (with_reducible first | exact HK.out | apply KeepBut.set_ | apply keep_drewN | apply keep_drew | apply keep_alloc) | exact HK.out)) (KeepBut.of_grown hg g) (Kd.R_base2 HO224.out)); have n3_ := sk_' (ho); clear HI0; clear HB; clear HK; clear HO224; have HI0 := n0_; have HB := n1_; have HK := n2_; have HO264 := n3_; clear n0_ n1_ n2_ n3_; clear ho hb hg hat))
    go_ret
    exact ⟨_, by first | rfl | (simp [errW_none, errW_some] <;> rfl) | (simp [*, errW_none, errW_some] <;> rfl), by (with_reducible repeat (first | apply ra_' | apply rn_' | apply rd1_')); exact HO264.out, by repeat (first | (with_reducible first | exact HI0.out | apply IsS157.alloc | apply IsS157.drewN | apply IsS157.drew | apply IsS157.set_1 | apply IsS157.set_2) | exact HI0.out), by repeat (first | (with_reducible first | exact HB.out | apply pa_' | apply pn_' | apply pd_' | refine pt_' ?_ (IsS157.ge HI0.out)) | exact HB.out), by repeat (first | (with_reducible first | exact HK.out | apply KeepBut.set_ | apply keep_drewN | apply keep_drew | apply keep_alloc) | exact HK.out)⟩
   rw [if_neg c70] at H
   exact absurd H (by simp)
  rw [if_neg c69] at H
  exact absurd H (by simp)
 rw [if_neg c68] at H
 have c68b0 : (t230 == 4) = false := beq_eq_false_iff_ne.mpr c68
 have c68b1 : (t230 != 4) = true := bne_iff_ne.mpr c68
 simp only [Option.some.injEq, Prod.mk.injEq] at H
 obtain ⟨rfl, rfl, rfl⟩ := H
 go_enter Try.func75, Try.ntmps75
 go_wp2_with (first | ((with_reducible refine xj_' (f := 129) rfl ?_); refine goesL_ (some 6) rfl rfl Try.func129 (by kernel_rfl) rfl #[.pointer (some ⟨g, 0, none⟩)] rfl (by (try simp only [xm_', xc_', xn_']); first | done | rfl | (simp only [xd_', xt_']; rfl)) ?_; (with_reducible refine (spec_l8Draw.calls k g s0_0 s0_1 s0_2 t222 t225 t226 w0 _ ?side1 ?side2 A2.out).mono ?_); (case side1 => repeat (first | (with_reducible first | exact HI0.out | apply IsS157.alloc | apply IsS157.drewN | apply IsS157.drew | apply IsS157.set_1 | apply IsS157.set_2) | exact HI0.out)); (case side2 => repeat (first | (with_reducible first | exact HB.out | apply pa_' | apply pn_' | apply pd_' | refine pt_' ?_ (IsS157.ge HI0.out)) | exact HB.out)); rintro e w76 ⟨v223, rfl, ho0, hi, hb, hk⟩; refine ⟨_, rfl, ?_⟩; have n0_ := sk_' (Kd.R_lower ho0 (keep_size (w := w) (g := g) (row := none) (by repeat (first | (with_reducible first | exact HK.out | apply KeepBut.set_ | apply keep_drewN | apply keep_drew | apply keep_alloc) | exact HK.out)))); have n1_ := sk_' (KeepBut.trans (by repeat (first | (with_reducible first | exact HK.out | apply KeepBut.set_ | apply keep_drewN | apply keep_drew | apply keep_alloc) | exact HK.out)) hk (.inl rfl)); have n2_ := sk_' (hb); have n3_ := sk_' (hi); clear HK; clear HB; clear HI0; have HO224 := n0_; have HK := n1_; have HB := n2_; have HI0 := n3_; clear n0_ n1_ n2_ n3_; (try clear hb); (try clear hb2); (try clear hk); (try clear hi); (try clear ho0); obtain ⟨Ao77, co77, eo77⟩ := Kd.R_slice HO224.out; subst eo77) | ((with_reducible refine xj_' (f := 91) rfl ?_); refine goesL_ (some 14) rfl rfl Try.func91 (by kernel_rfl) rfl #[.pointer (some ⟨g, 0, none⟩), .int .i64 (t222.length : Int)] rfl (by (try simp only [xm_', xc_', xn_']); first | done | rfl | (simp only [xd_', xt_']; rfl)) ?_; (with_reducible refine (spec_l1Below.calls g s0_0 t225 t226 (t222.length : Int) t227 t228 t229 w0 _ ?side1 ?side2 A6.out).mono ?_); (case side1 => repeat (first | (with_reducible first | exact HI0.out | apply IsS157.alloc | apply IsS157.drewN | apply IsS157.drew | apply IsS157.set_1 | apply IsS157.set_2) | exact HI0.out)); (case side2 => repeat (first | (with_reducible first | exact HB.out | apply pa_' | apply pn_' | apply pd_' | refine pt_' ?_ (IsS157.ge HI0.out)) | exact HB.out)); rintro e w78 ⟨rfl, hi, hb, hk⟩; refine ⟨_, rfl, ?_⟩; have n0_ := sk_' (xi_' (Kd.R_keep (IsS157.apart (show IsS157 w0 _ g s0_0 t225 t226 from by repeat (first | (with_reducible first | exact HI0.out | apply IsS157.alloc | apply IsS157.drewN | apply IsS157.drew | apply IsS157.set_1 | apply IsS157.set_2) | exact HI0.out)) (by (with_reducible repeat (first | apply ra_' | apply rn_' | apply rd1_')); exact HO224.out) (by decide)) hk (fun _ h => h.2)) (fun _ h => h.1)); have n1_ := sk_' (KeepBut.trans (by repeat (first | (with_reducible first | exact HK.out | apply KeepBut.set_ | apply keep_drewN | apply keep_drew | apply keep_alloc) | exact HK.out)) hk (.inl rfl)); have n2_ := sk_' (hb); have n3_ := sk_' (hi); clear HO224; clear HK; clear HB; clear HI0; have HO224 := n0_; have HK := n1_; have HB := n2_; have HI0 := n3_; clear n0_ n1_ n2_ n3_; (try clear hb); (try clear hb2); (try clear hk); (try clear hi)) | ((with_reducible refine xj_' (f := 91) rfl ?_); refine goesL_ (some 16) rfl rfl Try.func91 (by kernel_rfl) rfl #[.pointer (some ⟨g, 0, none⟩), .int .i64 9] rfl (by (try simp only [xm_', xc_', xn_']); first | done | rfl | (simp only [xd_', xt_']; rfl)) ?_; (with_reducible refine (spec_l1Below.calls g s0_0 t228 t229 9 t230 t231 t232 w0 _ ?side1 ?side2 A7.out).mono ?_); (case side1 => repeat (first | (with_reducible first | exact HI0.out | apply IsS157.alloc | apply IsS157.drewN | apply IsS157.drew | apply IsS157.set_1 | apply IsS157.set_2) | exact HI0.out)); (case side2 => repeat (first | (with_reducible first | exact HB.out | apply pa_' | apply pn_' | apply pd_' | refine pt_' ?_ (IsS157.ge HI0.out)) | exact HB.out)); rintro e w79 ⟨rfl, hi, hb, hk⟩; refine ⟨_, rfl, ?_⟩; have n0_ := sk_' (xi_' (Kd.R_keep (IsS157.apart (show IsS157 w0 _ g s0_0 t228 t229 from by repeat (first | (with_reducible first | exact HI0.out | apply IsS157.alloc | apply IsS157.drewN | apply IsS157.drew | apply IsS157.set_1 | apply IsS157.set_2) | exact HI0.out)) (by (with_reducible repeat (first | apply ra_' | apply rn_' | apply rd1_')); exact HO224.out) (by decide)) hk (fun _ h => h.2)) (fun _ h => h.1)); have n1_ := sk_' (KeepBut.trans (by repeat (first | (with_reducible first | exact HK.out | apply KeepBut.set_ | apply keep_drewN | apply keep_drew | apply keep_alloc) | exact HK.out)) hk (.inl rfl)); have n2_ := sk_' (hb); have n3_ := sk_' (hi); clear HO224; clear HK; clear HB; clear HI0; have HO224 := n0_; have HK := n1_; have HB := n2_; have HI0 := n3_; clear n0_ n1_ n2_ n3_; (try clear hb); (try clear hb2); (try clear hk); (try clear hi)))
 go_ret
 exact ⟨_, by first | rfl | (simp [errW_none, errW_some] <;> rfl) | (simp [*, errW_none, errW_some] <;> rfl), by (with_reducible repeat (first | apply ra_' | apply rn_' | apply rd1_')); exact HO224.out, by repeat (first | (with_reducible first | exact HI0.out | apply IsS157.alloc | apply IsS157.drewN | apply IsS157.drew | apply IsS157.set_1 | apply IsS157.set_2) | exact HI0.out), by repeat (first | (with_reducible first | exact HB.out | apply pa_' | apply pn_' | apply pd_' | refine pt_' ?_ (IsS157.ge HI0.out)) | exact HB.out), by repeat (first | (with_reducible first | exact HK.out | apply KeepBut.set_ | apply keep_drewN | apply keep_drew | apply keep_alloc) | exact HK.out)⟩
end Go.Proofs.Ytbhlmeghbfmgiaa.F

namespace Go.Proofs.Ytbhlmeghbfmgiaa.F
open Go.RowKit Go.Proofs.YtbhlmeghbfmgiaaW.PrintWords Go.Proofs.YtbhlmeghbfmgiaaW.PrintLast Go.Proofs.YtbhlmeghbfmgiaaW.PrintMore
attribute [local go_sem] max2_int min2_int max_two min_two max_three min_three max_four min_four
set_option linter.unusedVariables false
set_option linter.unusedSimpArgs false
def spec_l11Draw.l0 : Nat → List (S151) → Int → Int → List Int → Int → Int → Option ((List (S151)) × Int × Int)
 | 0, _, _, _, _, _, _ => none
 | k + 1, x3, x4, x5, x1000, x1001, x1002 => if x5 > 0 then ((spec_l1Below.f x1000 x1001 x1002 50).bind fun bt556 => ((spec_l1Int.f x1000 bt556.2.1 bt556.2.2 (([40, 60, 72, 100, 120, 200, 77] : List Int))).bind fun bt562 => (if x3.length < 8796093022208 then (spec_l11Draw.l0 k (x3 ++ [(⟨wrap64 ((wrap64 (x4 + 1)) + bt556.1), bt562.1⟩ : S151)]) (wrap64 ((wrap64 (x4 + 1)) + bt556.1)) (wrap64 (x5 - 1)) x1000 bt562.2.1 bt562.2.2) else (none)))) else (some (x3, x1001, x1002))
def spec_l11Draw.f (k : Nat) (s0_0 : List Int) (s0_1 : Int) (s0_2 : Int) : Option ((List (S151)) × Int × Int) := (spec_l1Int.f s0_0 s0_1 s0_2 (([60, 90, 120, 50, 144] : List Int))).bind fun bt547 => ((spec_l1Below.f s0_0 bt547.2.1 bt547.2.2 4).bind fun bt553 => (spec_l11Draw.l0 k (([(⟨0, bt547.1⟩ : S151)] : List (S151))) 0 bt553.1 s0_0 bt553.2.1 bt553.2.2))
set_option maxHeartbeats 8000000 in
set_option maxRecDepth 100000 in
theorem spec_l11Draw.calls (k : Nat) (g : Nat) (s0_0 : List Int) (s0_1 : Int) (s0_2 : Int) (r1 : List (S151)) (r2 : Int) (r3 : Int) (w0 w : World) (hI : IsS157 w0 w g s0_0 s0_1 s0_2) (hB : Below w0.heap.size w0 w) (h : spec_l11Draw.f k s0_0 s0_1 s0_2 = some (r1, r2, r3)) :
  Calls Try.prog 137 #[.pointer (some ⟨g, 0, none⟩)] w fun e w' => ∃ v0_ : Value, e = .returned (v0_) ∧ Kd.R k151 151 w' w.heap.size (fun _ => True) v0_ r1 ∧ IsS157 w0 w' g s0_0 r2 r3 ∧ Below w0.heap.size w0 w' ∧ KeepBut w w' g none := by
 have hu151 := Try.underlying151
 have HI0 := sk_' hI
 have HK := sk_' (KeepBut.refl w g none)
 have HL := sk_' hB.size
 clear hI
 have HW0 := sk_' hB.size
 have HB := sk_' hB
 clear hB
 have H : ((spec_l1Int.f s0_0 s0_1 s0_2 (([60, 90, 120, 50, 144] : List Int))).bind fun bt547 => ((spec_l1Below.f s0_0 bt547.2.1 bt547.2.2 4).bind fun bt553 => (spec_l11Draw.l0 k (([(⟨0, bt547.1⟩ : S151)] : List (S151))) 0 bt553.1 s0_0 bt553.2.1 bt553.2.2))) = some (r1, r2, r3) := h
 clear h
 obtain ⟨y544, hy544⟩ : ∃ y_ : List Int, y_ = (([60, 90, 120, 50, 144] : List Int)) := ⟨_, rfl⟩
 replace H : ((spec_l1Int.f s0_0 s0_1 s0_2 y544).bind fun bt547 => ((spec_l1Below.f s0_0 bt547.2.1 bt547.2.2 4).bind fun bt553 => (spec_l11Draw.l0 k (([(⟨0, bt547.1⟩ : S151)] : List (S151))) 0 bt553.1 s0_0 bt553.2.1 bt553.2.2))) = some (r1, r2, r3) := by first | (rw [hy544]; with_reducible exact H) | (have H2_ := (Option.bind_some _ _).symm.trans H; rw [hy544]; with_reducible exact H2_) | (have H2_ := (Option.bind_some _ _).symm.trans H; with_reducible exact H2_) | with_reducible exact H | (rw [hy544]; exact H) | exact H
 have Ny544 := sk_' hy544
 clear hy544
 replace H := bs_' H
 obtain ⟨⟨t547, t548, t549⟩, A20, H⟩ := H
 try dsimp only at H
 have A2 := sk_' A20
 clear A20
 obtain ⟨y550, hy550⟩ : ∃ y_ : List (S151), y_ = (([(⟨0, t547⟩ : S151)] : List (S151))) := ⟨_, rfl⟩
 replace H : ((spec_l1Below.f s0_0 t548 t549 4).bind fun bt553 => (spec_l11Draw.l0 k y550 0 bt553.1 s0_0 bt553.2.1 bt553.2.2)) = some (r1, r2, r3) := by first | (rw [hy550]; with_reducible exact H) | (have H2_ := (Option.bind_some _ _).symm.trans H; rw [hy550]; with_reducible exact H2_) | (have H2_ := (Option.bind_some _ _).symm.trans H; with_reducible exact H2_) | with_reducible exact H | (rw [hy550]; exact H) | exact H
 have Ny550 := sk_' hy550
 clear hy550
 replace H := bs_' H
 obtain ⟨⟨t553, t554, t555⟩, A30, H⟩ := H
 try dsimp only at H
 have A3 := sk_' A30
 clear A30
 have H' := sk_' H
 clear H
 go_enter Try.func137, Try.ntmps137
 go_wp2_with (first | ((with_reducible refine gate_dst (N := 7) rfl ?_); refine Kd.R_lit (Kd.int .i64) _ 3 ?hg (N := 7) ?hd (xs := ([60, 90, 120, 50, 144] : List Int)) (inner := [.int .i64 60, .int .i64 90, .int .i64 120, .int .i64 50, .int .i64 144]) (ok := fun _ => True) (okp := fun _ => True) ?hr ?hp (fun _ hk => hk) trivial (Below.refl _ _) (Nat.le_refl _) (by simp) ?_; (case hd => rfl); (case hg => rfl); (case hr => first | (go_simp; done) | (go_simp; rfl)); (case hp => exact (Reps.one (show Kd.M (Kd.int .i64) _ _ _ 60 [.int .i64 60] from rfl) (Reps.one (show Kd.M (Kd.int .i64) _ _ _ 90 [.int .i64 90] from rfl) (Reps.one (show Kd.M (Kd.int .i64) _ _ _ 120 [.int .i64 120] from rfl) (Reps.one (show Kd.M (Kd.int .i64) _ _ _ 50 [.int .i64 50] from rfl) (Reps.one (show Kd.M (Kd.int .i64) _ _ _ 144 [.int .i64 144] from rfl) (Reps.none _ _))))))); intro v545 w4 ho5 hb hg_ hnew_; clear hg_ hnew_; (first | rw [← Ny544.out] at ho5 | (simp only [Int.reduceToNat] at ho5; rw [← Ny544.out] at ho5)); have n0_ := sk_' (Kd.R_lower ho5 (keep_size (w := w) (g := g) (row := none) (by repeat (first | (with_reducible first | exact HK.out | apply KeepBut.set_ | apply keep_drewN | apply keep_drew | apply keep_alloc) | exact HK.out)))); have n1_ := sk_' (IsS157.below (by repeat (first | (with_reducible first | exact HI0.out | apply IsS157.alloc | apply IsS157.drewN | apply IsS157.drew | apply IsS157.set_1 | apply IsS157.set_2) | exact HI0.out)) hb); have n2_ := sk_' (KeepBut.trans (by repeat (first | (with_reducible first | exact HK.out | apply KeepBut.set_ | apply keep_drewN | apply keep_drew | apply keep_alloc) | exact HK.out)) (KeepBut.of_below hb g none) (.inl rfl)); have n3_ := sk_' (pp_' (by repeat (first | (with_reducible first | exact HB.out | apply pa_' | apply pn_' | apply pd_' | refine pt_' ?_ (IsS157.ge HI0.out)) | exact HB.out)) hb); clear HI0; clear HK; clear HB; have HO546 := n0_; have HI0 := n1_; have HK := n2_; have HB := n3_; clear n0_ n1_ n2_ n3_; clear hb ho5; obtain ⟨Ao6, co6, eo6⟩ := Kd.R_slice HO546.out; subst eo6) | ((with_reducible refine xj_' (f := 78) rfl ?_); refine goesL_ (some 8) rfl rfl Try.func78 (by kernel_rfl) rfl #[.pointer (some ⟨g, 0, none⟩), .slice Ao6 y544.length co6] rfl (by (try simp only [xm_', xc_', xn_']); first | done | rfl | (simp only [xd_', xt_']; rfl)) ?_; (with_reducible refine (spec_l1Int.calls g s0_0 s0_1 s0_2 _ _ y544 t547 t548 t549 w0 _ ?side1 ?side2 ?side3 ?side4 ?side5 A2.out).mono ?_); (case side1 => repeat (first | (with_reducible first | exact HI0.out | apply IsS157.alloc | apply IsS157.drewN | apply IsS157.drew | apply IsS157.set_1 | apply IsS157.set_2) | exact HI0.out)); (case side2 => repeat (first | (with_reducible first | exact HB.out | apply pa_' | apply pn_' | apply pd_' | refine pt_' ?_ (IsS157.ge HI0.out)) | exact HB.out)); (case side3 => repeat (first | exact (xr_' HO546.out).2.2 | (with_reducible refine xg_' ?_ _) | (with_reducible refine xe_' ?_ _) | (with_reducible refine xf_' ?_))); (case side4 => exact (xr_' HO546.out).2.1); (case side5 => exact far_slice (IsS157.own_ne HI0.out HO546.out (by decide))); rintro e w7 ⟨rfl, hi, hb, hk⟩; refine ⟨_, rfl, ?_⟩; have n0_ := sk_' (xi_' (Kd.R_keep (IsS157.apart (show IsS157 w0 _ g s0_0 s0_1 s0_2 from by repeat (first | (with_reducible first | exact HI0.out | apply IsS157.alloc | apply IsS157.drewN | apply IsS157.drew | apply IsS157.set_1 | apply IsS157.set_2) | exact HI0.out)) (by (with_reducible repeat (first | apply ra_' | apply rn_' | apply rd1_')); exact HO546.out) (by decide)) hk (fun _ h => h.2)) (fun _ h => h.1)); have n1_ := sk_' (KeepBut.trans (by repeat (first | (with_reducible first | exact HK.out | apply KeepBut.set_ | apply keep_drewN | apply keep_drew | apply keep_alloc) | exact HK.out)) hk (.inl rfl)); have n2_ := sk_' (hb); have n3_ := sk_' (hi); clear HO546; clear HK; clear HB; clear HI0; have HO546 := n0_; have HK := n1_; have HB := n2_; have HI0 := n3_; clear n0_ n1_ n2_ n3_; (try clear hb); (try clear hb2); (try clear hk); (try clear hi)) | ((with_reducible refine gate_dst (N := 10) rfl ?_); refine Kd.R_lit k151 _ 151 ?hg (N := 10) ?hd (xs := ([(⟨0, t547⟩ : S151)] : List (S151))) (inner := [.int .i64 0, .int .i64 t547]) (ok := fun _ => True) (okp := fun _ => True) ?hr ?hp (fun _ hk => hk) trivial (Below.refl _ _) (Nat.le_refl _) (by simp) ?_; (case hd => rfl); (case hg => rfl); (case hr => first | (go_simp; done) | (go_simp; rfl)); (case hp => exact (Reps.c2 (show Kd.M k151 _ _ _ (⟨0, t547⟩ : S151) [.int .i64 0, .int .i64 t547] from (k151_mkM _ _ _ (⟨0, t547⟩ : S151) )) (Reps.none _ _))); intro v551 w8 ho9 hb hg_ hnew_; clear hg_ hnew_; (first | rw [← Ny550.out] at ho9 | (simp only [Int.reduceToNat] at ho9; rw [← Ny550.out] at ho9)); have n0_ := sk_' (xb_' (by (with_reducible repeat (first | apply ra_' | apply rn_' | apply rd1_')); exact HO546.out) hb); have n1_ := sk_' (Kd.R_lower ho9 (keep_size (w := w) (g := g) (row := none) (by repeat (first | (with_reducible first | exact HK.out | apply KeepBut.set_ | apply keep_drewN | apply keep_drew | apply keep_alloc) | exact HK.out)))); have n2_ := sk_' (IsS157.below (by repeat (first | (with_reducible first | exact HI0.out | apply IsS157.alloc | apply IsS157.drewN | apply IsS157.drew | apply IsS157.set_1 | apply IsS157.set_2) | exact HI0.out)) hb); have n3_ := sk_' (KeepBut.trans (by repeat (first | (with_reducible first | exact HK.out | apply KeepBut.set_ | apply keep_drewN | apply keep_drew | apply keep_alloc) | exact HK.out)) (KeepBut.of_below hb g none) (.inl rfl)); have n4_ := sk_' (pp_' (by repeat (first | (with_reducible first | exact HB.out | apply pa_' | apply pn_' | apply pd_' | refine pt_' ?_ (IsS157.ge HI0.out)) | exact HB.out)) hb); clear HO546; clear HI0; clear HK; clear HB; have HO546 := n0_; have HO552 := n1_; have HI0 := n2_; have HK := n3_; have HB := n4_; clear n0_ n1_ n2_ n3_ n4_; clear hb ho9) | ((with_reducible refine xj_' (f := 91) rfl ?_); refine goesL_ (some 12) rfl rfl Try.func91 (by kernel_rfl) rfl #[.pointer (some ⟨g, 0, none⟩), .int .i64 4] rfl (by (try simp only [xm_', xc_', xn_']); first | done | rfl | (simp only [xd_', xt_']; rfl)) ?_; (with_reducible refine (spec_l1Below.calls g s0_0 t548 t549 4 t553 t554 t555 w0 _ ?side1 ?side2 A3.out).mono ?_); (case side1 => repeat (first | (with_reducible first | exact HI0.out | apply IsS157.alloc | apply IsS157.drewN | apply IsS157.drew | apply IsS157.set_1 | apply IsS157.set_2) | exact HI0.out)); (case side2 => repeat (first | (with_reducible first | exact HB.out | apply pa_' | apply pn_' | apply pd_' | refine pt_' ?_ (IsS157.ge HI0.out)) | exact HB.out)); rintro e w10 ⟨rfl, hi, hb, hk⟩; refine ⟨_, rfl, ?_⟩; have n0_ := sk_' (xi_' (Kd.R_keep (IsS157.apart (show IsS157 w0 _ g s0_0 t548 t549 from by repeat (first | (with_reducible first | exact HI0.out | apply IsS157.alloc | apply IsS157.drewN | apply IsS157.drew | apply IsS157.set_1 | apply IsS157.set_2) | exact HI0.out)) (by (with_reducible repeat (first | apply ra_' | apply rn_' | apply rd1_')); exact HO546.out) (by decide)) hk (fun _ h => h.2)) (fun _ h => h.1)); have n1_ := sk_' (xi_' (Kd.R_keep (IsS157.apart (show IsS157 w0 _ g s0_0 t548 t549 from by repeat (first | (with_reducible first | exact HI0.out | apply IsS157.alloc | apply IsS157.drewN | apply IsS157.drew | apply IsS157.set_1 | apply IsS157.set_2) | exact HI0.out)) (by (with_reducible repeat (first | apply ra_' | apply rn_' | apply rd1_')); exact HO552.out) (by decide)) hk (fun _ h => h.2)) (fun _ h => h.1)); have n2_ := sk_' (KeepBut.trans (by repeat (first | (with_reducible first | exact HK.out | apply KeepBut.set_ | apply keep_drewN | apply keep_drew | apply keep_alloc) | exact HK.out)) hk (.inl rfl)); have n3_ := sk_' (hb); have n4_ := sk_' (hi); clear HO546; clear HO552; clear HK; clear HB; clear HI0; have HO546 := n0_; have HO552 := n1_; have HK := n2_; have HB := n3_; have HI0 := n4_; clear n0_ n1_ n2_ n3_ n4_; (try clear hb); (try clear hb2); (try clear hk); (try clear hi)))
 go_loopg [3, 4, 5] k (fun kq v3 v4 v5 w' => ∃ (x3_1 : List (S151)) (x4_1 : Int) (x5_1 : Int) (x1001_1 : Int) (x1002_1 : Int), v4 = .int .i64 x4_1 ∧ v5 = .int .i64 x5_1 ∧ Aside0 (spec_l11Draw.l0 kq x3_1 x4_1 x5_1 s0_0 x1001_1 x1002_1 = some (r1, r2, r3)) ∧ Aside0 (kq ≤ k) ∧ Aside0 (Kd.R k151 151 w' w.heap.size (fun _ => True) v3 x3_1) ∧ Aside0 (IsS157 w0 w' g s0_0 x1001_1 x1002_1) ∧ Aside0 (KeepBut w w' g none) ∧ Aside0 (Below w0.heap.size w0 w'))
 case atStart => exact ⟨(y550), (0), (t553), (t554), (t555), (by first | rfl | (simp; done) | (simp [*]; done)), (by first | rfl | (simp; done) | (simp [*]; done)), H', ⟨Nat.le_refl _⟩, ⟨by (with_reducible repeat (first | apply ra_' | apply rn_' | apply rd1_')); exact HO552.out⟩, ⟨by repeat (first | (with_reducible first | exact HI0.out | apply IsS157.alloc | apply IsS157.drewN | apply IsS157.drew | apply IsS157.set_1 | apply IsS157.set_2) | exact HI0.out)⟩, ⟨by repeat (first | (with_reducible first | exact HK.out | apply KeepBut.set_ | apply keep_drewN | apply keep_drew | apply keep_alloc) | exact HK.out)⟩, ⟨by repeat (first | (with_reducible first | exact HB.out | apply pa_' | apply pn_' | apply pd_' | refine pt_' ?_ (IsS157.ge HI0.out)) | exact HB.out)⟩⟩
 case round =>
  clear H'
  try clear c1
  try clear c2
  try clear p2
  try clear c7
  try clear c9
  obtain ⟨x3_1, x4_1, x5_1, x1001_1, x1002_1, rfl, rfl, HA, HK1, HO_3, HI0, HK, HB⟩ := hrel
  cases gk with
  | zero => exact absurd HA.out (by simp [spec_l11Draw.l0])
  | succ k1 =>
   have H := HA.out
   clear HA
   simp only [spec_l11Draw.l0] at H
   by_cases c11 : x5_1 > 0
   ·
    rw [if_pos c11] at H
    have c11b0 : decide (0 < x5_1) = true := decide_eq_true c11
    clear c11
    replace H := bs_' H
    obtain ⟨⟨t556, t557, t558⟩, A120, H⟩ := H
    try dsimp only at H
    have A12 := sk_' A120
    clear A120
    obtain ⟨y559, hy559⟩ : ∃ y_ : List Int, y_ = (([40, 60, 72, 100, 120, 200, 77] : List Int)) := ⟨_, rfl⟩
    replace H : ((spec_l1Int.f s0_0 t557 t558 y559).bind fun bt562 => (if x3_1.length < 8796093022208 then (spec_l11Draw.l0 k1 (x3_1 ++ [(⟨wrap64 ((wrap64 (x4_1 + 1)) + t556), bt562.1⟩ : S151)]) (wrap64 ((wrap64 (x4_1 + 1)) + t556)) (wrap64 (x5_1 - 1)) s0_0 bt562.2.1 bt562.2.2) else (none))) = some (r1, r2, r3) := by first | (rw [hy559]; with_reducible exact H) | (have H2_ := (Option.bind_some _ _).symm.trans H; rw [hy559]; with_reducible exact H2_) | (have H2_ := (Option.bind_some _ _).symm.trans H; with_reducible exact H2_) | with_reducible exact H | (rw [hy559]; exact H) | exact H
    have Ny559 := sk_' hy559
    clear hy559
    replace H := bs_' H
    obtain ⟨⟨t562, t563, t564⟩, A130, H⟩ := H
    try dsimp only at H
    have A13 := sk_' A130
    clear A130
    by_cases c14 : x3_1.length < 8796093022208
    ·
     rw [if_pos c14] at H
     have LMc14 := sk_' c14
     clear c14
     obtain ⟨y565, hy565⟩ : ∃ y_ : List (S151), y_ = (x3_1 ++ [(⟨wrap64 ((wrap64 (x4_1 + 1)) + t556), t562⟩ : S151)]) := ⟨_, rfl⟩
     replace H : (spec_l11Draw.l0 k1 y565 (wrap64 ((wrap64 (x4_1 + 1)) + t556)) (wrap64 (x5_1 - 1)) s0_0 t563 t564) = some (r1, r2, r3) := by first | (rw [hy565]; with_reducible exact H) | (have H2_ := (Option.bind_some _ _).symm.trans H; rw [hy565]; with_reducible exact H2_) | (have H2_ := (Option.bind_some _ _).symm.trans H; with_reducible exact H2_) | with_reducible exact H | (rw [hy565]; exact H) | exact H
     have Ny565 := sk_' hy565
     clear hy565
     have H' := sk_' H
     clear H
     go_wp2_with (first | ((with_reducible refine xj_' (f := 91) rfl ?_); refine goesL_ (some 20) rfl rfl Try.func91 (by kernel_rfl) rfl #[.pointer (some ⟨g, 0, none⟩), .int .i64 50] rfl (by (try simp only [xm_', xc_', xn_']); first | done | rfl | (simp only [xd_', xt_']; rfl)) ?_; (with_reducible refine (spec_l1Below.calls g s0_0 x1001_1 x1002_1 50 t556 t557 t558 w0 _ ?side1 ?side2 A12.out).mono ?_); (case side1 => repeat (first | (with_reducible first | exact HI0.out | apply IsS157.alloc | apply IsS157.drewN | apply IsS157.drew | apply IsS157.set_1 | apply IsS157.set_2) | exact HI0.out)); (case side2 => repeat (first | (with_reducible first | exact HB.out | apply pa_' | apply pn_' | apply pd_' | refine pt_' ?_ (IsS157.ge HI0.out)) | exact HB.out)); rintro e w15 ⟨rfl, hi, hb, hk⟩; refine ⟨_, rfl, ?_⟩; have n0_ := sk_' (xi_' (Kd.R_keep (IsS157.apart (show IsS157 w0 _ g s0_0 x1001_1 x1002_1 from by repeat (first | (with_reducible first | exact HI0.out | apply IsS157.alloc | apply IsS157.drewN | apply IsS157.drew | apply IsS157.set_1 | apply IsS157.set_2) | exact HI0.out)) (by (with_reducible repeat (first | apply ra_' | apply rn_' | apply rd1_')); exact HO_3.out) (by decide)) hk (fun _ h => h.2)) (fun _ h => h.1)); have n1_ := sk_' (KeepBut.trans (by repeat (first | (with_reducible first | exact HK.out | apply KeepBut.set_ | apply keep_drewN | apply keep_drew | apply keep_alloc) | exact HK.out)) hk (.inl rfl)); have n2_ := sk_' (hb); have n3_ := sk_' (hi); clear HO_3; clear HK; clear HB; clear HI0; have HO_3 := n0_; have HK := n1_; have HB := n2_; have HI0 := n3_; clear n0_ n1_ n2_ n3_; (try clear hb); (try clear hb2); (try clear hk); (try clear hi)) | ((with_reducible refine gate_dst (N := 25) rfl ?_); refine Kd.R_lit (Kd.int .i64) _ 3 ?hg (N := 25) ?hd (xs := ([40, 60, 72, 100, 120, 200, 77] : List Int)) (inner := [.int .i64 40, .int .i64 60, .int .i64 72, .int .i64 100, .int .i64 120, .int .i64 200, .int .i64 77]) (ok := fun _ => True) (okp := fun _ => True) ?hr ?hp (fun _ hk => hk) trivial (Below.refl _ _) (Nat.le_refl _) (by simp) ?_; (case hd => rfl); (case hg => rfl); (case hr => first | (go_simp; done) | (go_simp; rfl)); (case hp => exact (Reps.one (show Kd.M (Kd.int .i64) _ _ _ 40 [.int .i64 40] from rfl) (Reps.one (show Kd.M (Kd.int .i64) _ _ _ 60 [.int .i64 60] from rfl) (Reps.one (show Kd.M (Kd.int .i64) _ _ _ 72 [.int .i64 72] from rfl) (Reps.one (show Kd.M (Kd.int .i64) _ _ _ 100 [.int .i64 100] from rfl) (Reps.one (show Kd.M (Kd.int .i64) _ _ _ 120 [.int .i64 120] from rfl) (Reps.one (show Kd.M (Kd.int .i64) _ _ _ 200 [.int .i64 200] from rfl) (Reps.one (show Kd.M (Kd.int .i64) _ _ _ 77 [.int .i64 77] from rfl) (Reps.none _ _))))))))); intro v560 w16 ho17 hb hg_ hnew_; clear hg_ hnew_; (first | rw [← Ny559.out] at ho17 | (simp only [Int.reduceToNat] at ho17; rw [← Ny559.out] at ho17)); have n0_ := sk_' (xb_' (by (with_reducible repeat (first | apply ra_' | apply rn_' | apply rd1_')); exact HO_3.out) hb); have n1_ := sk_' (Kd.R_lower ho17 (keep_size (w := w) (g := g) (row := none) (by repeat (first | (with_reducible first | exact HK.out | apply KeepBut.set_ | apply keep_drewN | apply keep_drew | apply keep_alloc) | exact HK.out)))); have n2_ := sk_' (IsS157.below (by repeat (first | (with_reducible first | exact HI0.out | apply IsS157.alloc | apply IsS157.drewN | apply IsS157.drew | apply IsS157.set_1 | apply IsS157.set_2) | exact HI0.out)) hb); have n3_ := sk_' (KeepBut.trans (by repeat (first | (with_reducible first | exact HK.out | apply KeepBut.set_ | apply keep_drewN | apply keep_drew | apply keep_alloc) | exact HK.out)) (KeepBut.of_below hb g none) (.inl rfl)); have n4_ := sk_' (pp_' (by repeat (first | (with_reducible first | exact HB.out | apply pa_' | apply pn_' | apply pd_' | refine pt_' ?_ (IsS157.ge HI0.out)) | exact HB.out)) hb); clear HO_3; clear HI0; clear HK; clear HB; have HO_3 := n0_; have HO561 := n1_; have HI0 := n2_; have HK := n3_; have HB := n4_; clear n0_ n1_ n2_ n3_ n4_; clear hb ho17; obtain ⟨Ao18, co18, eo18⟩ := Kd.R_slice HO561.out; subst eo18) | ((with_reducible refine xj_' (f := 78) rfl ?_); refine goesL_ (some 26) rfl rfl Try.func78 (by kernel_rfl) rfl #[.pointer (some ⟨g, 0, none⟩), .slice Ao18 y559.length co18] rfl (by (try simp only [xm_', xc_', xn_']); first | done | rfl | (simp only [xd_', xt_']; rfl)) ?_; (with_reducible refine (spec_l1Int.calls g s0_0 t557 t558 _ _ y559 t562 t563 t564 w0 _ ?side1 ?side2 ?side3 ?side4 ?side5 A13.out).mono ?_); (case side1 => repeat (first | (with_reducible first | exact HI0.out | apply IsS157.alloc | apply IsS157.drewN | apply IsS157.drew | apply IsS157.set_1 | apply IsS157.set_2) | exact HI0.out)); (case side2 => repeat (first | (with_reducible first | exact HB.out | apply pa_' | apply pn_' | apply pd_' | refine pt_' ?_ (IsS157.ge HI0.out)) | exact HB.out)); (case side3 => repeat (first | exact (xr_' HO561.out).2.2 | (with_reducible refine xg_' ?_ _) | (with_reducible refine xe_' ?_ _) | (with_reducible refine xf_' ?_))); (case side4 => exact (xr_' HO561.out).2.1); (case side5 => exact far_slice (IsS157.own_ne HI0.out HO561.out (by decide))); rintro e w19 ⟨rfl, hi, hb, hk⟩; refine ⟨_, rfl, ?_⟩; have n0_ := sk_' (xi_' (Kd.R_keep (IsS157.apart (show IsS157 w0 _ g s0_0 t557 t558 from by repeat (first | (with_reducible first | exact HI0.out | apply IsS157.alloc | apply IsS157.drewN | apply IsS157.drew | apply IsS157.set_1 | apply IsS157.set_2) | exact HI0.out)) (by (with_reducible repeat (first | apply ra_' | apply rn_' | apply rd1_')); exact HO_3.out) (by decide)) hk (fun _ h => h.2)) (fun _ h => h.1)); have n1_ := sk_' (xi_' (Kd.R_keep (IsS157.apart (show IsS157 w0 _ g s0_0 t557 t558 from by repeat (first | (with_reducible first | exact HI0.out | apply IsS157.alloc | apply IsS157.drewN | apply IsS157.drew | apply IsS157.set_1 | apply IsS157.set_2) | exact HI0.out)) (by (with_reducible repeat (first | apply ra_' | apply rn_' | apply rd1_')); exact HO561.out) (by decide)) hk (fun _ h => h.2)) (fun _ h => h.1)); have n2_ := sk_' (KeepBut.trans (by repeat (first | (with_reducible first | exact HK.out | apply KeepBut.set_ | apply keep_drewN | apply keep_drew | apply keep_alloc) | exact HK.out)) hk (.inl rfl)); have n3_ := sk_' (hb); have n4_ := sk_' (hi); clear HO_3; clear HO561; clear HK; clear HB; clear HI0; have HO_3 := n0_; have HO561 := n1_; have HK := n2_; have HB := n3_; have HI0 := n4_; clear n0_ n1_ n2_ n3_ n4_; (try clear hb); (try clear hb2); (try clear hk); (try clear hi)) | ((with_reducible refine gate_builtin (b := .append) (xs := #[.tmp 22, .tmp 28]) rfl ?_); at_builtin; refine Kd.R_append k151 w.heap.size rfl (.tmp 22) (.tmp 28) 41 151 (.agg #[(.int .i64 0), (.int .i64 0)]) 16 rfl Try.underlying41 info151 rfl (by decide) (by omega) u3 x3_1 (⟨wrap64 ((wrap64 (x4_1 + 1)) + t556), t562⟩ : S151) [.int .i64 (wrap64 ((wrap64 (x4_1 + 1)) + t556)), .int .i64 t562] (fun _ => True) (fun _ => False) rfl rfl ?aP (fun _ hk => hk.elim) ?aF ?aO (Below.refl _ _) ?aS ?aL ?_; (case aP => exact k151_mkM _ _ _ (⟨wrap64 ((wrap64 (x4_1 + 1)) + t556), t562⟩ : S151)); (case aF => exact (fun _ _ => trivial)); (case aO => exact (by (with_reducible repeat (first | apply ra_' | apply rn_' | apply rd1_')); exact HO_3.out)); (case aS => exact (keep_size (w := w) (g := g) (row := none) (by repeat (first | (with_reducible first | exact HK.out | apply KeepBut.set_ | apply keep_drewN | apply keep_drew | apply keep_alloc) | exact HK.out)))); (case aL => have := LMc14.out; omega); intro v566 w20 ho hb hg hat; rw [← Ny565.out] at ho; have n0_ := sk_' (IsS157.grown (by repeat (first | (with_reducible first | exact HI0.out | apply IsS157.alloc | apply IsS157.drewN | apply IsS157.drew | apply IsS157.set_1 | apply IsS157.set_2) | exact HI0.out)) hg (IsS157.own_ne HI0.out HO_3.out (by decide))); have n1_ := sk_' (Kd.R_over' (by (with_reducible repeat (first | apply ra_' | apply rn_' | apply rd1_')); exact HO561.out) (Kd.R_typed (by (with_reducible repeat (first | apply ra_' | apply rn_' | apply rd1_')); exact HO_3.out)) (by decide) hg); have n2_ := sk_' (below_weaken (by repeat (first | (with_reducible first | exact HB.out | apply pa_' | apply pn_' | apply pd_' | refine pt_' ?_ (IsS157.ge HI0.out)) | exact HB.out)) HL.out hb); have n3_ := sk_' (KeepBut.trans (by repeat (first | (with_reducible first | exact HK.out | apply KeepBut.set_ | apply keep_drewN | apply keep_drew | apply keep_alloc) | exact HK.out)) (KeepBut.of_grown hg g) (Kd.R_base2 HO_3.out)); have n4_ := sk_' (ho); clear HI0; clear HO561; clear HB; clear HK; clear HO_3; have HI0 := n0_; have HO561 := n1_; have HB := n2_; have HK := n3_; have HO567 := n4_; clear n0_ n1_ n2_ n3_ n4_; clear ho hb hg hat))
     go_roundg k1
     case measure => have := HK1.out; omega
     case rel => exact ⟨(y565), (wrap64 ((wrap64 (x4_1 + 1)) + t556)), (wrap64 (x5_1 - 1)), (t563), (t564), (by first | rfl | (simp; done) | (simp [*]; done)), (by first | rfl | (simp; done) | (simp [*]; done)), H', ⟨by have := HK1.out; omega⟩, ⟨by (with_reducible repeat (first | apply ra_' | apply rn_' | apply rd1_')); exact HO567.out⟩, ⟨by repeat (first | (with_reducible first | exact HI0.out | apply IsS157.alloc | apply IsS157.drewN | apply IsS157.drew | apply IsS157.set_1 | apply IsS157.set_2) | exact HI0.out)⟩, ⟨by repeat (first | (with_reducible first | exact HK.out | apply KeepBut.set_ | apply keep_drewN | apply keep_drew | apply keep_alloc) | exact HK.out)⟩, ⟨by repeat (first | (with_reducible first | exact HB.out | apply pa_' | apply pn_' | apply pd_' | refine pt_' ?_ (IsS157.ge HI0.out)) | exact HB.out)⟩⟩
    rw [if_neg c14] at H
    exact absurd H (by simp)
   rw [if_neg c11] at H
   have c11b0 : decide (0 < x5_1) = false := decide_eq_false c11
   clear c11
   simp only [Option.some.injEq, Prod.mk.injEq] at H
   obtain ⟨rfl, rfl, rfl⟩ := H
   go_wp2
   go_ret
   exact ⟨_, by first | rfl | (simp [errW_none, errW_some] <;> rfl) | (simp [*, errW_none, errW_some] <;> rfl), by (with_reducible repeat (first | apply ra_' | apply rn_' | apply rd1_')); exact HO_3.out, by repeat (first | (with_reducible first | exact HI0.out | apply IsS157.alloc | apply IsS157.drewN | apply IsS157.drew | apply IsS157.set_1 | apply IsS157.set_2) | exact HI0.out), by repeat (first | (with_reducible first | exact HB.out | apply pa_' | apply pn_' | apply pd_' | refine pt_' ?_ (IsS157.ge HI0.out)) | exact HB.out), by repeat (first | (with_reducible first | exact HK.out | apply KeepBut.set_ | apply keep_drewN | apply keep_drew | apply keep_alloc) | exact HK.out)⟩
end Go.Proofs.Ytbhlmeghbfmgiaa.F

namespace Go.Proofs.Ytbhlmeghbfmgiaa.F
open Go.RowKit Go.Proofs.YtbhlmeghbfmgiaaW.PrintWords Go.Proofs.YtbhlmeghbfmgiaaW.PrintLast Go.Proofs.YtbhlmeghbfmgiaaW.PrintMore
attribute [local go_sem] max2_int min2_int max_two min_two max_three min_three max_four min_four
set_option linter.unusedVariables false
set_option linter.unusedSimpArgs false
def spec_l11Any.f (k : Nat) (s0_0 : List Int) (s0_1 : Int) (s0_2 : Int) : Option ((List (S151)) × Int × Int) := (spec_l11Draw.f k s0_0 s0_1 s0_2).bind fun bt568 => ((spec_l1Below.f s0_0 bt568.2.1 bt568.2.2 (bt568.1.length : Int)).bind fun bt573 => ((spec_l1Below.f s0_0 bt573.2.1 bt573.2.2 9).bind fun bt576 => (if bt576.1 = 0 then ((spec_l1Int.f s0_0 bt576.2.1 bt576.2.2 (([(-1), 0, 2000, 2001] : List Int))).bind fun bt582 => (if 0 ≤ bt573.1 then (if bt573.1 < (bt568.1.length : Int) then (some ((bt568.1.set (bt573.1 : Int).toNat (⟨bt582.1, (rd_T151 bt568.1 bt573.1).f1⟩ : S151)), bt582.2.1, bt582.2.2)) else (none)) else (none))) else (if bt576.1 = 1 then ((spec_l1Int.f s0_0 bt576.2.1 bt576.2.2 (([19, 20, 300, 301] : List Int))).bind fun bt589 => (if 0 ≤ bt573.1 then (if bt573.1 < (bt568.1.length : Int) then (some ((bt568.1.set (bt573.1 : Int).toNat (⟨(rd_T151 bt568.1 bt573.1).f0, bt589.1⟩ : S151)), bt589.2.1, bt589.2.2)) else (none)) else (none))) else (if bt576.1 = 2 then (some (([] : List (S151)), bt576.2.1, bt576.2.2)) else (some (bt568.1, bt576.2.1, bt576.2.2)))))))
set_option maxHeartbeats 8000000 in
set_option maxRecDepth 100000 in
theorem spec_l11Any.calls (k : Nat) (g : Nat) (s0_0 : List Int) (s0_1 : Int) (s0_2 : Int) (r1 : List (S151)) (r2 : Int) (r3 : Int) (w0 w : World) (hI : IsS157 w0 w g s0_0 s0_1 s0_2) (hB : Below w0.heap.size w0 w) (h : spec_l11Any.f k s0_0 s0_1 s0_2 = some (r1, r2, r3)) :
  Calls Try.prog 94 #[.pointer (some ⟨g, 0, none⟩)] w fun e w' => ∃ v0_ : Value, e = .returned (v0_) ∧ Kd.R k151 151 w' w.heap.size (fun _ => True) v0_ r1 ∧ IsS157 w0 w' g s0_0 r2 r3 ∧ Below w0.heap.size w0 w' ∧ KeepBut w w' g none := by
 have HI0 := sk_' hI
 have HK := sk_' (KeepBut.refl w g none)
 have HL := sk_' hB.size
 clear hI
 have HW0 := sk_' hB.size
 have HB := sk_' hB
 clear hB
 have H : ((spec_l11Draw.f k s0_0 s0_1 s0_2).bind fun bt568 => ((spec_l1Below.f s0_0 bt568.2.1 bt568.2.2 (bt568.1.length : Int)).bind fun bt573 => ((spec_l1Below.f s0_0 bt573.2.1 bt573.2.2 9).bind fun bt576 => (if bt576.1 = 0 then ((spec_l1Int.f s0_0 bt576.2.1 bt576.2.2 (([(-1), 0, 2000, 2001] : List Int))).bind fun bt582 => (if 0 ≤ bt573.1 then (if bt573.1 < (bt568.1.length : Int) then (some ((bt568.1.set (bt573.1 : Int).toNat (⟨bt582.1, (rd_T151 bt568.1 bt573.1).f1⟩ : S151)), bt582.2.1, bt582.2.2)) else (none)) else (none))) else (if bt576.1 = 1 then ((spec_l1Int.f s0_0 bt576.2.1 bt576.2.2 (([19, 20, 300, 301] : List Int))).bind fun bt589 => (if 0 ≤ bt573.1 then (if bt573.1 < (bt568.1.length : Int) then (some ((bt568.1.set (bt573.1 : Int).toNat (⟨(rd_T151 bt568.1 bt573.1).f0, bt589.1⟩ : S151)), bt589.2.1, bt589.2.2)) else (none)) else (none))) else (if bt576.1 = 2 then (some (([] : List (S151)), bt576.2.1, bt576.2.2)) else (some (bt568.1, bt576.2.1, bt576.2.2)))))))) = some (r1, r2, r3) := h
 clear h
 replace H := bs_' H
 obtain ⟨⟨t568, t571, t572⟩, A20, H⟩ := H
 try dsimp only at H
 have A2 := sk_' A20
 clear A20
 replace H := bs_' H
 obtain ⟨⟨t573, t574, t575⟩, A30, H⟩ := H
 try dsimp only at H
 have A3 := sk_' A30
 clear A30
 replace H := bs_' H
 obtain ⟨⟨t576, t577, t578⟩, A40, H⟩ := H
 try dsimp only at H
 have A4 := sk_' A40
 clear A40
 by_cases c5 : t576 = 0
 ·
  rw [if_pos c5] at H
  have c5b0 : (t576 == 0) = true := beq_iff_eq.mpr c5
  have c5b1 : (t576 != 0) = false := bne_eq_false_iff_eq.mpr c5
  clear c5
  obtain ⟨y579, hy579⟩ : ∃ y_ : List Int, y_ = (([(-1), 0, 2000, 2001] : List Int)) := ⟨_, rfl⟩
  replace H : ((spec_l1Int.f s0_0 t577 t578 y579).bind fun bt582 => (if 0 ≤ t573 then (if t573 < (t568.length : Int) then (some ((t568.set (t573 : Int).toNat (⟨bt582.1, (rd_T151 t568 t573).f1⟩ : S151)), bt582.2.1, bt582.2.2)) else (none)) else (none))) = some (r1, r2, r3) := by first | (rw [hy579]; with_reducible exact H) | (have H2_ := (Option.bind_some _ _).symm.trans H; rw [hy579]; with_reducible exact H2_) | (have H2_ := (Option.bind_some _ _).symm.trans H; with_reducible exact H2_) | with_reducible exact H | (rw [hy579]; exact H) | exact H
  have Ny579 := sk_' hy579
  clear hy579
  replace H := bs_' H
  obtain ⟨⟨t582, t583, t584⟩, A60, H⟩ := H
  try dsimp only at H
  have A6 := sk_' A60
  clear A60
  by_cases c7 : 0 ≤ t573
  ·
   rw [if_pos c7] at H
   have c7b0 : decide (0 ≤ t573) = true := decide_eq_true c7
   clear c7
   by_cases c8 : t573 < (t568.length : Int)
   ·
    rw [if_pos c8] at H
    have c8b0 : decide (t573 < (t568.length : Int)) = true := decide_eq_true c8
    clear c8
    obtain ⟨y585, hy585⟩ : ∃ y_ : List (S151), y_ = (t568.set (t573 : Int).toNat (⟨t582, (rd_T151 t568 t573).f1⟩ : S151)) := ⟨_, rfl⟩
    replace H : (some (y585, t583, t584)) = some (r1, r2, r3) := by first | (rw [hy585]; with_reducible exact H) | (have H2_ := (Option.bind_some _ _).symm.trans H; rw [hy585]; with_reducible exact H2_) | (have H2_ := (Option.bind_some _ _).symm.trans H; with_reducible exact H2_) | with_reducible exact H | (rw [hy585]; exact H) | exact H
    have Ny585 := sk_' hy585
    clear hy585
    simp only [Option.some.injEq, Prod.mk.injEq] at H
    obtain ⟨rfl, rfl, rfl⟩ := H
    go_enter Try.func94, Try.ntmps94
    go_wp2_with (first | ((with_reducible refine xj_' (f := 137) rfl ?_); refine goesL_ (some 6) rfl rfl Try.func137 (by kernel_rfl) rfl #[.pointer (some ⟨g, 0, none⟩)] rfl (by (try simp only [xm_', xc_', xn_']); first | done | rfl | (simp only [xd_', xt_']; rfl)) ?_; (with_reducible refine (spec_l11Draw.calls k g s0_0 s0_1 s0_2 t568 t571 t572 w0 _ ?side1 ?side2 A2.out).mono ?_); (case side1 => repeat (first | (with_reducible first | exact HI0.out | apply IsS157.alloc | apply IsS157.drewN | apply IsS157.drew | apply IsS157.set_1 | apply IsS157.set_2) | exact HI0.out)); (case side2 => repeat (first | (with_reducible first | exact HB.out | apply pa_' | apply pn_' | apply pd_' | refine pt_' ?_ (IsS157.ge HI0.out)) | exact HB.out)); rintro e w10 ⟨v569, rfl, ho0, hi, hb, hk⟩; refine ⟨_, rfl, ?_⟩; have n0_ := sk_' (Kd.R_lower ho0 (keep_size (w := w) (g := g) (row := none) (by repeat (first | (with_reducible first | exact HK.out | apply KeepBut.set_ | apply keep_drewN | apply keep_drew | apply keep_alloc) | exact HK.out)))); have n1_ := sk_' (KeepBut.trans (by repeat (first | (with_reducible first | exact HK.out | apply KeepBut.set_ | apply keep_drewN | apply keep_drew | apply keep_alloc) | exact HK.out)) hk (.inl rfl)); have n2_ := sk_' (hb); have n3_ := sk_' (hi); clear HK; clear HB; clear HI0; have HO570 := n0_; have HK := n1_; have HB := n2_; have HI0 := n3_; clear n0_ n1_ n2_ n3_; (try clear hb); (try clear hb2); (try clear hk); (try clear hi); (try clear ho0); obtain ⟨Ao11, co11, eo11⟩ := Kd.R_slice HO570.out; subst eo11) | ((with_reducible refine xj_' (f := 91) rfl ?_); refine goesL_ (some 10) rfl rfl Try.func91 (by kernel_rfl) rfl #[.pointer (some ⟨g, 0, none⟩), .int .i64 (t568.length : Int)] rfl (by (try simp only [xm_', xc_', xn_']); first | done | rfl | (simp only [xd_', xt_']; rfl)) ?_; (with_reducible refine (spec_l1Below.calls g s0_0 t571 t572 (t568.length : Int) t573 t574 t575 w0 _ ?side1 ?side2 A3.out).mono ?_); (case side1 => repeat (first | (with_reducible first | exact HI0.out | apply IsS157.alloc | apply IsS157.drewN | apply IsS157.drew | apply IsS157.set_1 | apply IsS157.set_2) | exact HI0.out)); (case side2 => repeat (first | (with_reducible first | exact HB.out | apply pa_' | apply pn_' | apply pd_' | refine pt_' ?_ (IsS157.ge HI0.out)) | exact HB.out)); rintro e w12 ⟨rfl, hi, hb, hk⟩; refine ⟨_, rfl, ?_⟩; have n0_ := sk_' (xi_' (Kd.R_keep (IsS157.apart (show IsS157 w0 _ g s0_0 t571 t572 from by repeat (first | (with_reducible first | exact HI0.out | apply IsS157.alloc | apply IsS157.drewN | apply IsS157.drew | apply IsS157.set_1 | apply IsS157.set_2) | exact HI0.out)) (by (with_reducible repeat (first | apply ra_' | apply rn_' | apply rd1_')); exact HO570.out) (by decide)) hk (fun _ h => h.2)) (fun _ h => h.1)); have n1_ := sk_' (KeepBut.trans (by repeat (first | (with_reducible first | exact HK.out | apply KeepBut.set_ | apply keep_drewN | apply keep_drew | apply keep_alloc) | exact HK.out)) hk (.inl rfl)); have n2_ := sk_' (hb); have n3_ := sk_' (hi); clear HO570; clear HK; clear HB; clear HI0; have HO570 := n0_; have HK := n1_; have HB := n2_; have HI0 := n3_; clear n0_ n1_ n2_ n3_; (try clear hb); (try clear hb2); (try clear hk); (try clear hi)) | ((with_reducible refine xj_' (f := 91) rfl ?_); refine goesL_ (some 12) rfl rfl Try.func91 (by kernel_rfl) rfl #[.pointer (some ⟨g, 0, none⟩), .int .i64 9] rfl (by (try simp only [xm_', xc_', xn_']); first | done | rfl | (simp only [xd_', xt_']; rfl)) ?_; (with_reducible refine (spec_l1Below.calls g s0_0 t574 t575 9 t576 t577 t578 w0 _ ?side1 ?side2 A4.out).mono ?_); (case side1 => repeat (first | (with_reducible first | exact HI0.out | apply IsS157.alloc | apply IsS157.drewN | apply IsS157.drew | apply IsS157.set_1 | apply IsS157.set_2) | exact HI0.out)); (case side2 => repeat (first | (with_reducible first | exact HB.out | apply pa_' | apply pn_' | apply pd_' | refine pt_' ?_ (IsS157.ge HI0.out)) | exact HB.out)); rintro e w13 ⟨rfl, hi, hb, hk⟩; refine ⟨_, rfl, ?_⟩; have n0_ := sk_' (xi_' (Kd.R_keep (IsS157.apart (show IsS157 w0 _ g s0_0 t574 t575 from by repeat (first | (with_reducible first | exact HI0.out | apply IsS157.alloc | apply IsS157.drewN | apply IsS157.drew | apply IsS157.set_1 | apply IsS157.set_2) | exact HI0.out)) (by (with_reducible repeat (first | apply ra_' | apply rn_' | apply rd1_')); exact HO570.out) (by decide)) hk (fun _ h => h.2)) (fun _ h => h.1)); have n1_ := sk_' (KeepBut.trans (by repeat (first | (with_reducible first | exact HK.out | apply KeepBut.set_ | apply keep_drewN | apply keep_drew | apply keep_alloc) | exact HK.out)) hk (.inl rfl)); have n2_ := sk_' (hb); have n3_ := sk_' (hi); clear HO570; clear HK; clear HB; clear HI0; have HO570 := n0_; have HK := n1_; have HB := n2_; have HI0 := n3_; clear n0_ n1_ n2_ n3_; (try clear hb); (try clear hb2); (try clear hk); (try clear hi)) | ((with_reducible refine gate_dst (N := 18) rfl ?_); refine Kd.R_lit (Kd.int .i64) _ 3 ?hg (N := 18) ?hd (xs := ([(-1), 0, 2000, 2001] : List Int)) (inner := [.int .i64 (-1), .int .i64 0, .int .i64 2000, .int .i64 2001]) (ok := fun _ => True) (okp := fun _ => True) ?hr ?hp (fun _ hk => hk) trivial (Below.refl _ _) (Nat.le_refl _) (by simp) ?_; (case hd => rfl); (case hg => rfl); (case hr => first | (go_simp; done) | (go_simp; rfl)); (case hp => exact (Reps.one (show Kd.M (Kd.int .i64) _ _ _ (-1) [.int .i64 (-1)] from rfl) (Reps.one (show Kd.M (Kd.int .i64) _ _ _ 0 [.int .i64 0] from rfl) (Reps.one (show Kd.M (Kd.int .i64) _ _ _ 2000 [.int .i64 2000] from rfl) (Reps.one (show Kd.M (Kd.int .i64) _ _ _ 2001 [.int .i64 2001] from rfl) (Reps.none _ _)))))); intro v580 w14 ho15 hb hg_ hnew_; clear hg_ hnew_; (first | rw [← Ny579.out] at ho15 | (simp only [Int.reduceToNat] at ho15; rw [← Ny579.out] at ho15)); have n0_ := sk_' (xb_' (by (with_reducible repeat (first | apply ra_' | apply rn_' | apply rd1_')); exact HO570.out) hb); have n1_ := sk_' (Kd.R_lower ho15 (keep_size (w := w) (g := g) (row := none) (by repeat (first | (with_reducible first | exact HK.out | apply KeepBut.set_ | apply keep_drewN | apply keep_drew | apply keep_alloc) | exact HK.out)))); have n2_ := sk_' (IsS157.below (by repeat (first | (with_reducible first | exact HI0.out | apply IsS157.alloc | apply IsS157.drewN | apply IsS157.drew | apply IsS157.set_1 | apply IsS157.set_2) | exact HI0.out)) hb); have n3_ := sk_' (KeepBut.trans (by repeat (first | (with_reducible first | exact HK.out | apply KeepBut.set_ | apply keep_drewN | apply keep_drew | apply keep_alloc) | exact HK.out)) (KeepBut.of_below hb g none) (.inl rfl)); have n4_ := sk_' (pp_' (by repeat (first | (with_reducible first | exact HB.out | apply pa_' | apply pn_' | apply pd_' | refine pt_' ?_ (IsS157.ge HI0.out)) | exact HB.out)) hb); clear HO570; clear HI0; clear HK; clear HB; have HO570 := n0_; have HO581 := n1_; have HI0 := n2_; have HK := n3_; have HB := n4_; clear n0_ n1_ n2_ n3_ n4_; clear hb ho15; obtain ⟨Ao16, co16, eo16⟩ := Kd.R_slice HO581.out; subst eo16) | ((with_reducible refine xj_' (f := 78) rfl ?_); refine goesL_ (some 19) rfl rfl Try.func78 (by kernel_rfl) rfl #[.pointer (some ⟨g, 0, none⟩), .slice Ao16 y579.length co16] rfl (by (try simp only [xm_', xc_', xn_']); first | done | rfl | (simp only [xd_', xt_']; rfl)) ?_; (with_reducible refine (spec_l1Int.calls g s0_0 t577 t578 _ _ y579 t582 t583 t584 w0 _ ?side1 ?side2 ?side3 ?side4 ?side5 A6.out).mono ?_); (case side1 => repeat (first | (with_reducible first | exact HI0.out | apply IsS157.alloc | apply IsS157.drewN | apply IsS157.drew | apply IsS157.set_1 | apply IsS157.set_2) | exact HI0.out)); (case side2 => repeat (first | (with_reducible first | exact HB.out | apply pa_' | apply pn_' | apply pd_' | refine pt_' ?_ (IsS157.ge HI0.out)) | exact HB.out)); (case side3 => repeat (first | exact (xr_' HO581.out).2.2 | (with_reducible refine xg_' ?_ _) | (with_reducible refine xe_' ?_ _) | (with_reducible refine xf_' ?_))); (case side4 => exact (xr_' HO581.out).2.1); (case side5 => exact far_slice (IsS157.own_ne HI0.out HO581.out (by decide))); rintro e w17 ⟨rfl, hi, hb, hk⟩; refine ⟨_, rfl, ?_⟩; have n0_ := sk_' (xi_' (Kd.R_keep (IsS157.apart (show IsS157 w0 _ g s0_0 t577 t578 from by repeat (first | (with_reducible first | exact HI0.out | apply IsS157.alloc | apply IsS157.drewN | apply IsS157.drew | apply IsS157.set_1 | apply IsS157.set_2) | exact HI0.out)) (by (with_reducible repeat (first | apply ra_' | apply rn_' | apply rd1_')); exact HO570.out) (by decide)) hk (fun _ h => h.2)) (fun _ h => h.1)); have n1_ := sk_' (xi_' (Kd.R_keep (IsS157.apart (show IsS157 w0 _ g s0_0 t577 t578 from by repeat (first | (with_reducible first | exact HI0.out | apply IsS157.alloc | apply IsS157.drewN | apply IsS157.drew | apply IsS157.set_1 | apply IsS157.set_2) | exact HI0.out)) (by (with_reducible repeat (first | apply ra_' | apply rn_' | apply rd1_')); exact HO581.out) (by decide)) hk (fun _ h => h.2)) (fun _ h => h.1)); have n2_ := sk_' (KeepBut.trans (by repeat (first | (with_reducible first | exact HK.out | apply KeepBut.set_ | apply keep_drewN | apply keep_drew | apply keep_alloc) | exact HK.out)) hk (.inl rfl)); have n3_ := sk_' (hb); have n4_ := sk_' (hi); clear HO570; clear HO581; clear HK; clear HB; clear HI0; have HO570 := n0_; have HO581 := n1_; have HK := n2_; have HB := n3_; have HI0 := n4_; clear n0_ n1_ n2_ n3_ n4_; (try clear hb); (try clear hb2); (try clear hk); (try clear hi); have p9 : 0 ≤ (t573 : Int) := od_' (by first | (with_reducible assumption) | assumption); have q9 : (t573 : Int) < ((t568.length : Int) : Int) := od_' (by first | (with_reducible assumption) | assumption); obtain ⟨go9, co9, eo9, gb9, gl9, cl9, HG9⟩ := Kd.R_form HO570.out (by omega); (first | cases eo9 | (injection eo9 with ea_ en_ ec_; (first | subst ea_ | (injection ea_ with ea_; subst ea_)); subst ec_; clear en_)); have GB9 := sk_' gb9; have GG9 := sk_' HG9; clear gb9 gl9 HG9; obtain ⟨ce9, hcl9, hM9, hcc9, hfr9⟩ := Kd.R_elem HO570.out z151 (t573 : Int) p9 q9; obtain rfl := k151_openM hM9; have hx9_0 : w17.cell? ⟨go9, (t573 : Int).toNat * 2, none⟩ = some (.int .i64 ((rd_T151 t568 t573).f0)) := hcc9 0 _ rfl; have hx9_1 : w17.cell? ⟨go9, (t573 : Int).toNat * 2 + 1, none⟩ = some (.int .i64 ((rd_T151 t568 t573).f1)) := hcc9 1 _ rfl; have hf9_0 : w17.frozen? ⟨go9, (t573 : Int).toNat * 2, none⟩ = false := hfr9 0; have hf9_1 : w17.frozen? ⟨go9, (t573 : Int).toNat * 2 + 1, none⟩ = false := hfr9 1; clear hcl9 hcc9 hfr9 hM9; replace p9 := eq_true p9; replace q9 := eq_true q9; have HX18 := sk_' (show Kd.R k151 151 w17 w.heap.size (fun _ => True) (.slice (some ⟨go9, 0, none⟩) t568.length co11) t568 from (by (with_reducible repeat (first | apply ra_' | apply rn_' | apply rd1_')); exact HO570.out)); obtain ⟨ce18, hcl18, hM18, hcc18, hfr18⟩ := Kd.R_elem HX18.out z151 (t573 : Int) (od_' (by first | (with_reducible assumption) | assumption)) (by have h_ : (t573 : Int) < ((t568.length : Int) : Int) := od_' (by first | (with_reducible assumption) | assumption); first | exact h_ | (have e_ := (xr_' HO570.out).1; omega) | simpa using h_); obtain rfl := k151_openM hM18; have HP18 := Kd.R_seg HX18.out (t573 : Int) (od_' (by first | (with_reducible assumption) | assumption)) (by have h_ : (t573 : Int) < ((t568.length : Int) : Int) := od_' (by first | (with_reducible assumption) | assumption); first | exact h_ | (have e_ := (xr_' HO570.out).1; omega) | simpa using h_) (seg := [.int .i64 t582]) (j := 0) hcl18 hcc18 (show 1 ≤ 2 from by decide) (x' := (⟨t582, (rd_T151 t568 t573).f1⟩ : S151)) (k151_mkM _ _ _ (⟨t582, (rd_T151 t568 t573).f1⟩ : S151) ) (fun _ hk => hk); have hx18_0 := hcc18 0 _ rfl; (try simp only [show (k151).sz = 2 from rfl, Nat.mul_one, Nat.add_zero] at hx18_0); have hf18_0 := hfr18 0; (try simp only [show (k151).sz = 2 from rfl, Nat.mul_one, Nat.add_zero] at hf18_0); clear hcl18 hcc18 hfr18 hM18) | ((with_reducible refine gate_store (t := 3) (p := 21) rfl ?_); refine store_event (t := 3) (p := 21) (v := ?vo_w19) (w1 := (w17.setCell ⟨go9, (t573 : Int).toNat * 2, none⟩ (.int .i64 t582))) ?hg ?ho ?hn ?hr ?_; (case ho => rfl); (case hg => rfl); (case hn => rfl); (case hr => first | (go_simp; done) | (go_simp; rfl)); intro w19 hw; have hg : w17.grownBy w19 (some go9) := (by rw [hw]; exact HP18.2); have hp_ : Kd.R k151 151 w19 w.heap.size (fun _ => True) (.slice (some ⟨go9, 0, none⟩) t568.length co11) y585 := (by rw [hw, Ny585.out]; exact HP18.1); clear HP18; have n0_ := sk_' (IsS157.grown (by repeat (first | (with_reducible first | exact HI0.out | apply IsS157.alloc | apply IsS157.drewN | apply IsS157.drew | apply IsS157.set_1 | apply IsS157.set_2) | exact HI0.out)) hg (IsS157.own_ne HI0.out HO570.out (by decide))); have n1_ := sk_' (hp_); have n2_ := sk_' (Kd.R_over' (v := (.slice (some ⟨go9, 0, none⟩) t568.length co11)) (by (with_reducible repeat (first | apply ra_' | apply rn_' | apply rd1_')); exact HO581.out) (Kd.R_typed HO570.out) (by decide) hg); have n3_ := sk_' ((by rw [hw]; exact pt_' (HB.out) (Nat.le_trans HL.out GB9.out) : Below w0.heap.size w0 w19)); have n4_ := sk_' (KeepBut.trans (by repeat (first | (with_reducible first | exact HK.out | apply KeepBut.set_ | apply keep_drewN | apply keep_drew | apply keep_alloc) | exact HK.out)) (KeepBut.of_grown hg g) (Kd.R_base2 HO570.out)); clear HI0; clear HO570; clear HO581; clear HB; clear HK; have HI0 := n0_; have HO570 := n1_; have HO581 := n2_; have HB := n3_; have HK := n4_; clear n0_ n1_ n2_ n3_ n4_; clear hg hw hp_))
    go_ret
    exact ⟨_, by first | rfl | (simp [errW_none, errW_some] <;> rfl) | (simp [*, errW_none, errW_some] <;> rfl), by (with_reducible repeat (first | apply ra_' | apply rn_' | apply rd1_')); exact HO570.out, by repeat (first | (with_reducible first | exact HI0.out | apply IsS157.alloc | apply IsS157.drewN | apply IsS157.drew | apply IsS157.set_1 | apply IsS157.set_2) | exact HI0.out), by repeat (first | (with_reducible first | exact HB.out | apply pa_' | apply pn_' | apply pd_' | refine pt_' ?_ (IsS157.ge HI0.out)) | exact HB.out), by repeat (first | (with_reducible first | exact HK.out | apply KeepBut.set_ | apply keep_drewN | apply keep_drew | apply keep_alloc) | exact HK.out)⟩
   rw [if_neg c8] at H
   exact absurd H (by simp)
  rw [if_neg c7] at H
  exact absurd H (by simp)
 rw [if_neg c5] at H
 have c5b0 : (t576 == 0) = false := beq_eq_false_iff_ne.mpr c5
 have c5b1 : (t576 != 0) = true := bne_iff_ne.mpr c5
 by_cases c20 : t576 = 1
 ·
  rw [if_pos c20] at H
  have c20b0 : (t576 == 1) = true := beq_iff_eq.mpr c20
  have c20b1 : (t576 != 1) = false := bne_eq_false_iff_eq.mpr c20
  clear c20
  obtain ⟨y586, hy586⟩ : ∃ y_ : List Int, y_ = (([19, 20, 300, 301] : List Int)) := ⟨_, rfl⟩
  replace H : ((spec_l1Int.f s0_0 t577 t578 y586).bind fun bt589 => (if 0 ≤ t573 then (if t573 < (t568.length : Int) then (some ((t568.set (t573 : Int).toNat (⟨(rd_T151 t568 t573).f0, bt589.1⟩ : S151)), bt589.2.1, bt589.2.2)) else (none)) else (none))) = some (r1, r2, r3) := by first | (rw [hy586]; with_reducible exact H) | (have H2_ := (Option.bind_some _ _).symm.trans H; rw [hy586]; with_reducible exact H2_) | (have H2_ := (Option.bind_some _ _).symm.trans H; with_reducible exact H2_) | with_reducible exact H | (rw [hy586]; exact H) | exact H
  have Ny586 := sk_' hy586
  clear hy586
  replace H := bs_' H
  obtain ⟨⟨t589, t590, t591⟩, A210, H⟩ := H
  try dsimp only at H
  have A21 := sk_' A210
  clear A210
  by_cases c22 : 0 ≤ t573
  ·
   rw [if_pos c22] at H
   have c22b0 : decide (0 ≤ t573) = true := decide_eq_true c22
   clear c22
   by_cases c23 : t573 < (t568.length : Int)
   ·
    rw [if_pos c23] at H
    have c23b0 : decide (t573 < (t568.length : Int)) = true := decide_eq_true c23
    clear c23
    obtain ⟨y592, hy592⟩ : ∃ y_ : List (S151), y_ = (t568.set (t573 : Int).toNat (⟨(rd_T151 t568 t573).f0, t589⟩ : S151)) := ⟨_, rfl⟩
    replace H : (some (y592, t590, t591)) = some (r1, r2, r3) := by first | (rw [hy592]; with_reducible exact H) | (have H2_ := (Option.bind_some _ _).symm.trans H; rw [hy592]; with_reducible exact H2_) | (have H2_ := (Option.bind_some _ _).symm.trans H; with_reducible exact H2_) | with_reducible exact H | (rw [hy592]; exact H) | exact H
    have Ny592 := sk_' hy592
    clear hy592
    simp only [Option.some.injEq, Prod.mk.injEq] at H
    obtain ⟨rfl, rfl, rfl⟩ := H
    go_enter Try.func94, Try.ntmps94
    go_wp2_with (first | ((with_reducible refine xj_' (f := 137) rfl ?_); refine goesL_ (some 6) rfl rfl Try.func137 (by kernel_rfl) rfl #[.pointer (some ⟨g, 0, none⟩)] rfl (by (try simp only [xm_', xc_', xn_']); first | done | rfl | (simp only [xd_', xt_']; rfl)) ?_; (with_reducible refine (spec_l11Draw.calls k g s0_0 s0_1 s0_2 t568 t571 t572 w0 _ ?side1 ?side2 A2.out).mono ?_); (case side1 => repeat (first | (with_reducible first | exact HI0.out | apply IsS157.alloc | apply IsS157.drewN | apply IsS157.drew | apply IsS157.set_1 | apply IsS157.set_2) | exact HI0.out)); (case side2 => repeat (first | (with_reducible first | exact HB.out | apply pa_' | apply pn_' | apply pd_' | refine pt_' ?_ (IsS157.ge HI0.out)) | exact HB.out)); rintro e w25 ⟨v569, rfl, ho0, hi, hb, hk⟩; refine ⟨_, rfl, ?_⟩; have n0_ := sk_' (Kd.R_lower ho0 (keep_size (w := w) (g := g) (row := none) (by repeat (first | (with_reducible first | exact HK.out | apply KeepBut.set_ | apply keep_drewN | apply keep_drew | apply keep_alloc) | exact HK.out)))); have n1_ := sk_' (KeepBut.trans (by repeat (first | (with_reducible first | exact HK.out | apply KeepBut.set_ | apply keep_drewN | apply keep_drew | apply keep_alloc) | exact HK.out)) hk (.inl rfl)); have n2_ := sk_' (hb); have n3_ := sk_' (hi); clear HK; clear HB; clear HI0; have HO570 := n0_; have HK := n1_; have HB := n2_; have HI0 := n3_; clear n0_ n1_ n2_ n3_; (try clear hb); (try clear hb2); (try clear hk); (try clear hi); (try clear ho0); obtain ⟨Ao26, co26, eo26⟩ := Kd.R_slice HO570.out; subst eo26) | ((with_reducible refine xj_' (f := 91) rfl ?_); refine goesL_ (some 10) rfl rfl Try.func91 (by kernel_rfl) rfl #[.pointer (some ⟨g, 0, none⟩), .int .i64 (t568.length : Int)] rfl (by (try simp only [xm_', xc_', xn_']); first | done | rfl | (simp only [xd_', xt_']; rfl)) ?_; (with_reducible refine (spec_l1Below.calls g s0_0 t571 t572 (t568.length : Int) t573 t574 t575 w0 _ ?side1 ?side2 A3.out).mono ?_); (case side1 => repeat (first | (with_reducible first | exact HI0.out | apply IsS157.alloc | apply IsS157.drewN | apply IsS157.drew | apply IsS157.set_1 | apply IsS157.set_2) | exact HI0.out)); (case side2 => repeat (first | (with_reducible first | exact HB.out | apply pa_' | apply pn_' | apply pd_' | refine pt_' ?_ (IsS157.ge HI0.out)) | exact HB.out)); rintro e w27 ⟨rfl, hi, hb, hk⟩; refine ⟨_, rfl, ?_⟩; have n0_ := sk_' (xi_' (Kd.R_keep (IsS157.apart (show IsS157 w0 _ g s0_0 t571 t572 from by repeat (first | (with_reducible first | exact HI0.out | apply IsS157.alloc | apply IsS157.drewN | apply IsS157.drew | apply IsS157.set_1 | apply IsS157.set_2) | exact HI0.out)) (by (with_reducible repeat (first | apply ra_' | apply rn_' | apply rd1_')); exact HO570.out) (by decide)) hk (fun _ h => h.2)) (fun _ h => h.1)); have n1_ := sk_' (KeepBut.trans (by repeat (first | (with_reducible first | exact HK.out | apply KeepBut.set_ | apply keep_drewN | apply keep_drew | apply keep_alloc) | exact HK.out)) hk (.inl rfl)); have n2_ := sk_' (hb); have n3_ := sk_' (hi); clear HO570; clear HK; clear HB; clear HI0; have HO570 := n0_; have HK := n1_; have HB := n2_; have HI0 := n3_; clear n0_ n1_ n2_ n3_; (try clear hb); (try clear hb2); (try clear hk); (try clear hi)) | ((with_reducible refine xj_' (f := 91) rfl ?_); refine goesL_ (some 12) rfl rfl Try.func91 (by kernel_rfl) rfl #[.pointer (some ⟨g, 0, none⟩), .int .i64 9] rfl (by (try simp only [xm_', xc_', xn_']); first | done | rfl | (simp only [xd_', xt_']; rfl)) ?_; (with_reducible refine (spec_l1Below.calls g s0_0 t574 t575 9 t576 t577 t578 w0 _ ?side1 ?side2 A4.out).mono ?_); (case side1 => repeat (first | (with_reducible first | exact HI0.out | apply IsS157.alloc | apply IsS157.drewN | apply IsS157.drew | apply IsS157.set_1 | apply IsS157.set_2) | exact HI0.out)); (case side2 => repeat (first | (with_reducible first | exact HB.out | apply pa_' | apply pn_' | apply pd_' | refine pt_' ?_ (IsS157.ge HI0.out)) | exact HB.out)); rintro e w28 ⟨rfl, hi, hb, hk⟩; refine ⟨_, rfl, ?_⟩; have n0_ := sk_' (xi_' (Kd.R_keep (IsS157.apart (show IsS157 w0 _ g s0_0 t574 t575 from by repeat (first | (with_reducible first | exact HI0.out | apply IsS157.alloc | apply IsS157.drewN | apply IsS157.drew | apply IsS157.set_1 | apply IsS157.set_2) | exact HI0.out)) (by (with_reducible repeat (first | apply ra_' | apply rn_' | apply rd1_')); exact HO570.out) (by decide)) hk (fun _ h => h.2)) (fun _ h => h.1)); have n1_ := sk_' (KeepBut.trans (by repeat (first | (with_reducible first | exact HK.out | apply KeepBut.set_ | apply keep_drewN | apply keep_drew | apply keep_alloc) | exact HK.out)) hk (.inl rfl)); have n2_ := sk_' (hb); have n3_ := sk_' (hi); clear HO570; clear HK; clear HB; clear HI0; have HO570 := n0_; have HK := n1_; have HB := n2_; have HI0 := n3_; clear n0_ n1_ n2_ n3_; (try clear hb); (try clear hb2); (try clear hk); (try clear hi)) | ((with_reducible refine gate_dst (N := 27) rfl ?_); refine Kd.R_lit (Kd.int .i64) _ 3 ?hg (N := 27) ?hd (xs := ([19, 20, 300, 301] : List Int)) (inner := [.int .i64 19, .int .i64 20, .int .i64 300, .int .i64 301]) (ok := fun _ => True) (okp := fun _ => True) ?hr ?hp (fun _ hk => hk) trivial (Below.refl _ _) (Nat.le_refl _) (by simp) ?_; (case hd => rfl); (case hg => rfl); (case hr => first | (go_simp; done) | (go_simp; rfl)); (case hp => exact (Reps.one (show Kd.M (Kd.int .i64) _ _ _ 19 [.int .i64 19] from rfl) (Reps.one (show Kd.M (Kd.int .i64) _ _ _ 20 [.int .i64 20] from rfl) (Reps.one (show Kd.M (Kd.int .i64) _ _ _ 300 [.int .i64 300] from rfl) (Reps.one (show Kd.M (Kd.int .i64) _ _ _ 301 [.int .i64 301] from rfl) (Reps.none _ _)))))); intro v587 w29 ho30 hb hg_ hnew_; clear hg_ hnew_; (first | rw [← Ny586.out] at ho30 | (simp only [Int.reduceToNat] at ho30; rw [← Ny586.out] at ho30)); have n0_ := sk_' (xb_' (by (with_reducible repeat (first | apply ra_' | apply rn_' | apply rd1_')); exact HO570.out) hb); have n1_ := sk_' (Kd.R_lower ho30 (keep_size (w := w) (g := g) (row := none) (by repeat (first | (with_reducible first | exact HK.out | apply KeepBut.set_ | apply keep_drewN | apply keep_drew | apply keep_alloc) | exact HK.out)))); have n2_ := sk_' (IsS157.below (by repeat (first | (with_reducible first | exact HI0.out | apply IsS157.alloc | apply IsS157.drewN | apply IsS157.drew | apply IsS157.set_1 | apply IsS157.set_2) | exact HI0.out)) hb); have n3_ := sk_' (KeepBut.trans (by repeat (first | (with_reducible first | exact HK.out | apply KeepBut.set_ | apply keep_drewN | apply keep_drew | apply keep_alloc) | exact HK.out)) (KeepBut.of_below hb g none) (.inl rfl)); have n4_ := sk_' (pp_' (by repeat (first | (with_reducible first | exact HB.out | apply pa_' | apply pn_' | apply pd_' | refine pt_' ?_ (IsS157.ge HI0.out)) | exact HB.out)) hb); clear HO570; clear HI0; clear HK; clear HB; have HO570 := n0_; have HO588 := n1_; have HI0 := n2_; have HK := n3_; have HB := n4_; clear n0_ n1_ n2_ n3_ n4_; clear hb ho30; obtain ⟨Ao31, co31, eo31⟩ := Kd.R_slice HO588.out; subst eo31) | ((with_reducible refine xj_' (f := 78) rfl ?_); refine goesL_ (some 28) rfl rfl Try.func78 (by kernel_rfl) rfl #[.pointer (some ⟨g, 0, none⟩), .slice Ao31 y586.length co31] rfl (by (try simp only [xm_', xc_', xn_']); first | done | rfl | (simp only [xd_', xt_']; rfl)) ?_; (with_reducible refine (spec_l1Int.calls g s0_0 t577 t578 _ _ y586 t589 t590 t591 w0 _ ?side1 ?side2 ?side3 ?side4 ?side5 A21.out).mono ?_); (case side1 => repeat (first | (with_reducible first | exact HI0.out | apply IsS157.alloc | apply IsS157.drewN | apply IsS157.drew | apply IsS157.set_1 | apply IsS157.set_2) | exact HI0.out)); (case side2 => repeat (first | (with_reducible first | exact HB.out | apply pa_' | apply pn_' | apply pd_' | refine pt_' ?_ (IsS157.ge HI0.out)) | exact HB.out)); (case side3 => repeat (first | exact (xr_' HO588.out).2.2 | (with_reducible refine xg_' ?_ _) | (with_reducible refine xe_' ?_ _) | (with_reducible refine xf_' ?_))); (case side4 => exact (xr_' HO588.out).2.1); (case side5 => exact far_slice (IsS157.own_ne HI0.out HO588.out (by decide))); rintro e w32 ⟨rfl, hi, hb, hk⟩; refine ⟨_, rfl, ?_⟩; have n0_ := sk_' (xi_' (Kd.R_keep (IsS157.apart (show IsS157 w0 _ g s0_0 t577 t578 from by repeat (first | (with_reducible first | exact HI0.out | apply IsS157.alloc | apply IsS157.drewN | apply IsS157.drew | apply IsS157.set_1 | apply IsS157.set_2) | exact HI0.out)) (by (with_reducible repeat (first | apply ra_' | apply rn_' | apply rd1_')); exact HO570.out) (by decide)) hk (fun _ h => h.2)) (fun _ h => h.1)); have n1_ := sk_' (xi_' (Kd.R_keep (IsS157.apart (show IsS157 w0 _ g s0_0 t577 t578 from by repeat (first | (with_reducible first | exact HI0.out | apply IsS157.alloc | apply IsS157.drewN | apply IsS157.drew | apply IsS157.set_1 | apply IsS157.set_2) | exact HI0.out)) (by (with_reducible repeat (first | apply ra_' | apply rn_' | apply rd1_')); exact HO588.out) (by decide)) hk (fun _ h => h.2)) (fun _ h => h.1)); have n2_ := sk_' (KeepBut.trans (by repeat (first | (with_reducible first | exact HK.out | apply KeepBut.set_ | apply keep_drewN | apply keep_drew | apply keep_alloc) | exact HK.out)) hk (.inl rfl)); have n3_ := sk_' (hb); have n4_ := sk_' (hi); clear HO570; clear HO588; clear HK; clear HB; clear HI0; have HO570 := n0_; have HO588 := n1_; have HK := n2_; have HB := n3_; have HI0 := n4_; clear n0_ n1_ n2_ n3_ n4_; (try clear hb); (try clear hb2); (try clear hk); (try clear hi); have p24 : 0 ≤ (t573 : Int) := od_' (by first | (with_reducible assumption) | assumption); have q24 : (t573 : Int) < ((t568.length : Int) : Int) := od_' (by first | (with_reducible assumption) | assumption); obtain ⟨go24, co24, eo24, gb24, gl24, cl24, HG24⟩ := Kd.R_form HO570.out (by omega); (first | cases eo24 | (injection eo24 with ea_ en_ ec_; (first | subst ea_ | (injection ea_ with ea_; subst ea_)); subst ec_; clear en_)); have GB24 := sk_' gb24; have GG24 := sk_' HG24; clear gb24 gl24 HG24; obtain ⟨ce24, hcl24, hM24, hcc24, hfr24⟩ := Kd.R_elem HO570.out z151 (t573 : Int) p24 q24; obtain rfl := k151_openM hM24; have hx24_0 : w32.cell? ⟨go24, (t573 : Int).toNat * 2, none⟩ = some (.int .i64 ((rd_T151 t568 t573).f0)) := hcc24 0 _ rfl; have hx24_1 : w32.cell? ⟨go24, (t573 : Int).toNat * 2 + 1, none⟩ = some (.int .i64 ((rd_T151 t568 t573).f1)) := hcc24 1 _ rfl; have hf24_0 : w32.frozen? ⟨go24, (t573 : Int).toNat * 2, none⟩ = false := hfr24 0; have hf24_1 : w32.frozen? ⟨go24, (t573 : Int).toNat * 2 + 1, none⟩ = false := hfr24 1; clear hcl24 hcc24 hfr24 hM24; replace p24 := eq_true p24; replace q24 := eq_true q24; have HX33 := sk_' (show Kd.R k151 151 w32 w.heap.size (fun _ => True) (.slice (some ⟨go24, 0, none⟩) t568.length co26) t568 from (by (with_reducible repeat (first | apply ra_' | apply rn_' | apply rd1_')); exact HO570.out)); obtain ⟨ce33, hcl33, hM33, hcc33, hfr33⟩ := Kd.R_elem HX33.out z151 (t573 : Int) (od_' (by first | (with_reducible assumption) | assumption)) (by have h_ : (t573 : Int) < ((t568.length : Int) : Int) := od_' (by first | (with_reducible assumption) | assumption); first | exact h_ | (have e_ := (xr_' HO570.out).1; omega) | simpa using h_); obtain rfl := k151_openM hM33; have HP33 := Kd.R_seg HX33.out (t573 : Int) (od_' (by first | (with_reducible assumption) | assumption)) (by have h_ : (t573 : Int) < ((t568.length : Int) : Int) := od_' (by first | (with_reducible assumption) | assumption); first | exact h_ | (have e_ := (xr_' HO570.out).1; omega) | simpa using h_) (seg := [.int .i64 t589]) (j := 1) hcl33 hcc33 (show 2 ≤ 2 from by decide) (x' := (⟨(rd_T151 t568 t573).f0, t589⟩ : S151)) (k151_mkM _ _ _ (⟨(rd_T151 t568 t573).f0, t589⟩ : S151) ) (fun _ hk => hk); have hx33_1 := hcc33 1 _ rfl; (try simp only [show (k151).sz = 2 from rfl, Nat.mul_one, Nat.add_zero] at hx33_1); have hf33_1 := hfr33 1; (try simp only [show (k151).sz = 2 from rfl, Nat.mul_one, Nat.add_zero] at hf33_1); clear hcl33 hcc33 hfr33 hM33) | ((with_reducible refine gate_store (t := 3) (p := 30) rfl ?_); refine store_event (t := 3) (p := 30) (v := ?vo_w34) (w1 := (w32.setCell ⟨go24, (t573 : Int).toNat * 2 + 1, none⟩ (.int .i64 t589))) ?hg ?ho ?hn ?hr ?_; (case ho => rfl); (case hg => rfl); (case hn => rfl); (case hr => first | (go_simp; done) | (go_simp; rfl)); intro w34 hw; have hg : w32.grownBy w34 (some go24) := (by rw [hw]; exact HP33.2); have hp_ : Kd.R k151 151 w34 w.heap.size (fun _ => True) (.slice (some ⟨go24, 0, none⟩) t568.length co26) y592 := (by rw [hw, Ny592.out]; exact HP33.1); clear HP33; have n0_ := sk_' (IsS157.grown (by repeat (first | (with_reducible first | exact HI0.out | apply IsS157.alloc | apply IsS157.drewN | apply IsS157.drew | apply IsS157.set_1 | apply IsS157.set_2) | exact HI0.out)) hg (IsS157.own_ne HI0.out HO570.out (by decide))); have n1_ := sk_' (hp_); have n2_ := sk_' (Kd.R_over' (v := (.slice (some ⟨go24, 0, none⟩) t568.length co26)) (by (with_reducible repeat (first | apply ra_' | apply rn_' | apply rd1_')); exact HO588.out) (Kd.R_typed HO570.out) (by decide) hg); have n3_ := sk_' ((by rw [hw]; exact pt_' (HB.out) (Nat.le_trans HL.out GB24.out) : Below w0.heap.size w0 w34)); have n4_ := sk_' (KeepBut.trans (by repeat (first | (with_reducible first | exact HK.out | apply KeepBut.set_ | apply keep_drewN | apply keep_drew | apply keep_alloc) | exact HK.out)) (KeepBut.of_grown hg g) (Kd.R_base2 HO570.out)); clear HI0; clear HO570; clear HO588; clear HB; clear HK; have HI0 := n0_; have HO570 := n1_; have HO588 := n2_; have HB := n3_; have HK := n4_; clear n0_ n1_ n2_ n3_ n4_; clear hg hw hp_))
    go_ret
    exact ⟨_, by first | rfl | (simp [errW_none, errW_some] <;> rfl) | (simp [*, errW_none, errW_some] <;> rfl), by (with_reducible repeat (first | apply ra_' | apply rn_' | apply rd1_')); exact HO570.out, by repeat (first | (with_reducible first | exact HI0.out | apply IsS157.alloc | apply IsS157.drewN | apply IsS157.drew | apply IsS157.set_1 | apply IsS157.set_2) | exact HI0.out), by repeat (first | (with_reducible first | exact HB.out | apply pa_' | apply pn_' | apply pd_' | refine pt_' ?_ (IsS157.ge HI0.out)) | exact HB.out), by repeat (first | (with_reducible first | exact HK.out | apply KeepBut.set_ | apply keep_drewN | apply keep_drew | apply keep_alloc) | exact HK.out)⟩
   rw [if_neg c23] at H
   exact absurd H (by simp)
  rw [if_neg c22] at H
  exact absurd H (by simp)
 rw [if_neg c20] at H
 have c20b0 : (t576 == 1) = false := beq_eq_false_iff_ne.mpr c20
 have c20b1 : (t576 != 1) = true := bne_iff_ne.mpr c20
 by_cases c35 : t576 = 2
 ·
  rw [if_pos c35] at H
  have c35b0 : (t576 == 2) = true := beq_iff_eq.mpr c35
  have c35b1 : (t576 != 2) = false := bne_eq_false_iff_eq.mpr c35
  clear c35
  simp only [Option.some.injEq, Prod.mk.injEq] at H
  obtain ⟨rfl, rfl, rfl⟩ := H
  go_enter Try.func94, Try.ntmps94
  go_wp2_with (first | ((with_reducible refine xj_' (f := 137) rfl ?_); refine goesL_ (some 6) rfl rfl Try.func137 (by kernel_rfl) rfl #[.pointer (some ⟨g, 0, none⟩)] rfl (by (try simp only [xm_', xc_', xn_']); first | done | rfl | (simp only [xd_', xt_']; rfl)) ?_; (with_reducible refine (spec_l11Draw.calls k g s0_0 s0_1 s0_2 t568 t571 t572 w0 _ ?side1 ?side2 A2.out).mono ?_); (case side1 => repeat (first | (with_reducible first | exact HI0.out | apply IsS157.alloc | apply IsS157.drewN | apply IsS157.drew | apply IsS157.set_1 | apply IsS157.set_2) | exact HI0.out)); (case side2 => repeat (first | (with_reducible first | exact HB.out | apply pa_' | apply pn_' | apply pd_' | refine pt_' ?_ (IsS157.ge HI0.out)) | exact HB.out)); rintro e w36 ⟨v569, rfl, ho0, hi, hb, hk⟩; refine ⟨_, rfl, ?_⟩; have n0_ := sk_' (Kd.R_lower ho0 (keep_size (w := w) (g := g) (row := none) (by repeat (first | (with_reducible first | exact HK.out | apply KeepBut.set_ | apply keep_drewN | apply keep_drew | apply keep_alloc) | exact HK.out)))); have n1_ := sk_' (KeepBut.trans (by repeat (first | (with_reducible first | exact HK.out | apply KeepBut.set_ | apply keep_drewN | apply keep_drew | apply keep_alloc) | exact HK.out)) hk (.inl rfl)); have n2_ := sk_' (hb); have n3_ := sk_' (hi); clear HK; clear HB; clear HI0; have HO570 := n0_; have HK := n1_; have HB := n2_; have HI0 := n3_; clear n0_ n1_ n2_ n3_; (try clear hb); (try clear hb2); (try clear hk); (try clear hi); (try clear ho0); obtain ⟨Ao37, co37, eo37⟩ := Kd.R_slice HO570.out; subst eo37) | ((with_reducible refine xj_' (f := 91) rfl ?_); refine goesL_ (some 10) rfl rfl Try.func91 (by kernel_rfl) rfl #[.pointer (some ⟨g, 0, none⟩), .int .i64 (t568.length : Int)] rfl (by (try simp only [xm_', xc_', xn_']); first | done | rfl | (simp only [xd_', xt_']; rfl)) ?_; (with_reducible refine (spec_l1Below.calls g s0_0 t571 t572 (t568.length : Int) t573 t574 t575 w0 _ ?side1 ?side2 A3.out).mono ?_); (case side1 => repeat (first | (with_reducible first | exact HI0.out | apply IsS157.alloc | apply IsS157.drewN | apply IsS157.drew | apply IsS157.set_1 | apply IsS157.set_2) | exact HI0.out)); (case side2 => repeat (first | (with_reducible first | exact HB.out | apply pa_' | apply pn_' | apply pd_' | refine pt_' ?_ (IsS157.ge HI0.out)) | exact HB.out)); rintro e w38 ⟨rfl, hi, hb, hk⟩; refine ⟨_, rfl, ?_⟩; have n0_ := sk_' (xi_' (Kd.R_keep (IsS157.apart (show IsS157 w0 _ g s0_0 t571 t572 from by repeat (first | (with_reducible first | exact HI0.out | apply IsS157.alloc | apply IsS157.drewN | apply IsS157.drew | apply IsS157.set_1 | apply IsS157.set_2) | exact HI0.out)) (by (with_reducible repeat (first | apply ra_' | apply rn_' | apply rd1_')); exact HO570.out) (by decide)) hk (fun _ h => h.2)) (fun _ h => h.1)); have n1_ := sk_' (KeepBut.trans (by repeat (first | (with_reducible first | exact HK.out | apply KeepBut.set_ | apply keep_drewN | apply keep_drew | apply keep_alloc) | exact HK.out)) hk (.inl rfl)); have n2_ := sk_' (hb); have n3_ := sk_' (hi); clear HO570; clear HK; clear HB; clear HI0; have HO570 := n0_; have HK := n1_; have HB := n2_; have HI0 := n3_; clear n0_ n1_ n2_ n3_; (try clear hb); (try clear hb2); (try clear hk); (try clear hi)) | ((with_reducible refine xj_' (f := 91) rfl ?_); refine goesL_ (some 12) rfl rfl Try.func91 (by kernel_rfl) rfl #[.pointer (some ⟨g, 0, none⟩), .int .i64 9] rfl (by (try simp only [xm_', xc_', xn_']); first | done | rfl | (simp only [xd_', xt_']; rfl)) ?_; (with_reducible refine (spec_l1Below.calls g s0_0 t574 t575 9 t576 t577 t578 w0 _ ?side1 ?side2 A4.out).mono ?_); (case side1 => repeat (first | (with_reducible first | exact HI0.out | apply IsS157.alloc | apply IsS157.drewN | apply IsS157.drew | apply IsS157.set_1 | apply IsS157.set_2) | exact HI0.out)); (case side2 => repeat (first | (with_reducible first | exact HB.out | apply pa_' | apply pn_' | apply pd_' | refine pt_' ?_ (IsS157.ge HI0.out)) | exact HB.out)); rintro e w39 ⟨rfl, hi, hb, hk⟩; refine ⟨_, rfl, ?_⟩; have n0_ := sk_' (xi_' (Kd.R_keep (IsS157.apart (show IsS157 w0 _ g s0_0 t574 t575 from by repeat (first | (with_reducible first | exact HI0.out | apply IsS157.alloc | apply IsS157.drewN | apply IsS157.drew | apply IsS157.set_1 | apply IsS157.set_2) | exact HI0.out)) (by (with_reducible repeat (first | apply ra_' | apply rn_' | apply rd1_')); exact HO570.out) (by decide)) hk (fun _ h => h.2)) (fun _ h => h.1)); have n1_ := sk_' (KeepBut.trans (by repeat (first | (with_reducible first | exact HK.out | apply KeepBut.set_ | apply keep_drewN | apply keep_drew | apply keep_alloc) | exact HK.out)) hk (.inl rfl)); have n2_ := sk_' (hb); have n3_ := sk_' (hi); clear HO570; clear HK; clear HB; clear HI0; have HO570 := n0_; have HK := n1_; have HB := n2_; have HI0 := n3_; clear n0_ n1_ n2_ n3_; (try clear hb); (try clear hb2); (try clear hk); (try clear hi)))
  go_ret
  exact ⟨_, by first | rfl | (simp [errW_none, errW_some] <;> rfl) | (simp [*, errW_none, errW_some] <;> rfl), by first | exact Kd.R_nil _ _ _ _ _ | exact Kd.N_nil _ _ _ _ _ | exact Kd.V_nil _ _ _ _ _ | exact Kd.Q_nil _ _ _ _ _ | exact Kd.S_nil _ _ _ _ _, by repeat (first | (with_reducible first | exact HI0.out | apply IsS157.alloc | apply IsS157.drewN | apply IsS157.drew | apply IsS157.set_1 | apply IsS157.set_2) | exact HI0.out), by repeat (first | (with_reducible first | exact HB.out | apply pa_' | apply pn_' | apply pd_' | refine pt_' ?_ (IsS157.ge HI0.out)) | exact HB.out), by repeat (first | (with_reducible first | exact HK.out | apply KeepBut.set_ | apply keep_drewN | apply keep_drew | apply keep_alloc) | exact HK.out)⟩
 rw [if_neg c35] at H
 have c35b0 : (t576 == 2) = false := beq_eq_false_iff_ne.mpr c35
 have c35b1 : (t576 != 2) = true := bne_iff_ne.mpr c35
 simp only [Option.some.injEq, Prod.mk.injEq] at H
 obtain ⟨rfl, rfl, rfl⟩ := H
 go_enter Try.func94, Try.ntmps94
 go_wp2_with (first | ((with_reducible refine xj_' (f := 137) rfl ?_); refine goesL_ (some 6) rfl rfl Try.func137 (by kernel_rfl) rfl #[.pointer (some ⟨g, 0, none⟩)] rfl (by (try simp only [xm_', xc_', xn_']); first | done | rfl | (simp only [xd_', xt_']; rfl)) ?_; (with_reducible refine (spec_l11Draw.calls k g s0_0 s0_1 s0_2 t568 t571 t572 w0 _ ?side1 ?side2 A2.out).mono ?_); (case side1 => repeat (first | (with_reducible first | exact HI0.out | apply IsS157.alloc | apply IsS157.drewN | apply IsS157.drew | apply IsS157.set_1 | apply IsS157.set_2) | exact HI0.out)); (case side2 => repeat (first | (with_reducible first | exact HB.out | apply pa_' | apply pn_' | apply pd_' | refine pt_' ?_ (IsS157.ge HI0.out)) | exact HB.out)); rintro e w40 ⟨v569, rfl, ho0, hi, hb, hk⟩; refine ⟨_, rfl, ?_⟩; have n0_ := sk_' (Kd.R_lower ho0 (keep_size (w := w) (g := g) (row := none) (by repeat (first | (with_reducible first | exact HK.out | apply KeepBut.set_ | apply keep_drewN | apply keep_drew | apply keep_alloc) | exact HK.out)))); have n1_ := sk_' (KeepBut.trans (by repeat (first | (with_reducible first | exact HK.out | apply KeepBut.set_ | apply keep_drewN | apply keep_drew | apply keep_alloc) | exact HK.out)) hk (.inl rfl)); have n2_ := sk_' (hb); have n3_ := sk_' (hi); clear HK; clear HB; clear HI0; have HO570 := n0_; have HK := n1_; have HB := n2_; have HI0 := n3_; clear n0_ n1_ n2_ n3_; (try clear hb); (try clear hb2); (try clear hk); (try clear hi); (try clear ho0); obtain ⟨Ao41, co41, eo41⟩ := Kd.R_slice HO570.out; subst eo41) | ((with_reducible refine xj_' (f := 91) rfl ?_); refine goesL_ (some 10) rfl rfl Try.func91 (by kernel_rfl) rfl #[.pointer (some ⟨g, 0, none⟩), .int .i64 (t568.length : Int)] rfl (by (try simp only [xm_', xc_', xn_']); first | done | rfl | (simp only [xd_', xt_']; rfl)) ?_; (with_reducible refine (spec_l1Below.calls g s0_0 t571 t572 (t568.length : Int) t573 t574 t575 w0 _ ?side1 ?side2 A3.out).mono ?_); (case side1 => repeat (first | (with_reducible first | exact HI0.out | apply IsS157.alloc | apply IsS157.drewN | apply IsS157.drew | apply IsS157.set_1 | apply IsS157.set_2) | exact HI0.out)); (case side2 => repeat (first | (with_reducible first | exact HB.out | apply pa_' | apply pn_' | apply pd_' | refine pt_' ?_ (IsS157.ge HI0.out)) | exact HB.out)); rintro e w42 ⟨rfl, hi, hb, hk⟩; refine ⟨_, rfl, ?_⟩; have n0_ := sk_' (xi_' (Kd.R_keep (IsS157.apart (show IsS157 w0 _ g s0_0 t571 t572 from by repeat (first | (with_reducible first | exact HI0.out | apply IsS157.alloc | apply IsS157.drewN | apply IsS157.drew | apply IsS157.set_1 | apply IsS157.set_2) | exact HI0.out)) (by (with_reducible repeat (first | apply ra_' | apply rn_' | apply rd1_')); exact HO570.out) (by decide)) hk (fun _ h => h.2)) (fun _ h => h.1)); have n1_ := sk_' (KeepBut.trans (by repeat (first | (with_reducible first | exact HK.out | apply KeepBut.set_ | apply keep_drewN | apply keep_drew | apply keep_alloc) | exact HK.out)) hk (.inl rfl)); have n2_ := sk_' (hb); have n3_ := sk_' (hi); clear HO570; clear HK; clear HB; clear HI0; have HO570 := n0_; have HK := n1_; have HB := n2_; have HI0 := n3_; clear n0_ n1_ n2_ n3_; (try clear hb); (try clear hb2); (try clear hk); (try clear hi)) | ((with_reducible refine xj_' (f := 91) rfl ?_); refine goesL_ (some 12) rfl rfl Try.func91 (by kernel_rfl) rfl #[.pointer (some ⟨g, 0, none⟩), .int .i64 9] rfl (by (try simp only [xm_', xc_', xn_']); first | done | rfl | (simp only [xd_', xt_']; rfl)) ?_; (with_reducible refine (spec_l1Below.calls g s0_0 t574 t575 9 t576 t577 t578 w0 _ ?side1 ?side2 A4.out).mono ?_); (case side1 => repeat (first | (with_reducible first | exact HI0.out | apply IsS157.alloc | apply IsS157.drewN | apply IsS157.drew | apply IsS157.set_1 | apply IsS157.set_2) | exact HI0.out)); (case side2 => repeat (first | (with_reducible first | exact HB.out | apply pa_' | apply pn_' | apply pd_' | refine pt_' ?_ (IsS157.ge HI0.out)) | exact HB.out)); rintro e w43 ⟨rfl, hi, hb, hk⟩; refine ⟨_, rfl, ?_⟩; have n0_ := sk_' (xi_' (Kd.R_keep (IsS157.apart (show IsS157 w0 _ g s0_0 t574 t575 from by repeat (first | (with_reducible first | exact HI0.out | apply IsS157.alloc | apply IsS157.drewN | apply IsS157.drew | apply IsS157.set_1 | apply IsS157.set_2) | exact HI0.out)) (by (with_reducible repeat (first | apply ra_' | apply rn_' | apply rd1_')); exact HO570.out) (by decide)) hk (fun _ h => h.2)) (fun _ h => h.1)); have n1_ := sk_' (KeepBut.trans (by repeat (first | (with_reducible first | exact HK.out | apply KeepBut.set_ | apply keep_drewN | apply keep_drew | apply keep_alloc) | exact HK.out)) hk (.inl rfl)); have n2_ := sk_' (hb); have n3_ := sk_' (hi); clear HO570; clear HK; clear HB; clear HI0; have HO570 := n0_; have HK := n1_; have HB := n2_; have HI0 := n3_; clear n0_ n1_ n2_ n3_; (try clear hb); (try clear hb2); (try clear hk); (try clear hi)))
 go_ret
 exact ⟨_, by first | rfl | (simp [errW_none, errW_some] <;> rfl) | (simp [*, errW_none, errW_some] <;> rfl), by (with_reducible repeat (first | apply ra_' | apply rn_' | apply rd1_')); exact HO570.out, by repeat (first | (with_reducible first | exact HI0.out | apply IsS157.alloc | apply IsS157.drewN | apply IsS157.drew | apply IsS157.set_1 | apply IsS157.set_2) | exact HI0.out), by repeat (first | (with_reducible first | exact HB.out | apply pa_' | apply pn_' | apply pd_' | refine pt_' ?_ (IsS157.ge HI0.out)) | exact HB.out), by repeat (first | (with_reducible first | exact HK.out | apply KeepBut.set_ | apply keep_drewN | apply keep_drew | apply keep_alloc) | exact HK.out)⟩
end Go.Proofs.Ytbhlmeghbfmgiaa.F

namespace Go.Proofs.Ytbhlmeghbfmgiaa.F
open Go.RowKit Go.Proofs.YtbhlmeghbfmgiaaW.PrintWords Go.Proofs.YtbhlmeghbfmgiaaW.PrintLast Go.Proofs.YtbhlmeghbfmgiaaW.PrintMore
attribute [local go_sem] max2_int min2_int max_two min_two max_three min_three max_four min_four
set_option linter.unusedVariables false
set_option linter.unusedSimpArgs false
def spec_DrawPlayScore.f (k : Nat) (l0 : List Int) : Option ((List (S26)) × (List (S151))) := (spec_l1New.f k l0).bind fun bt593 => ((spec_l8Any.f k bt593.1 bt593.2.1 bt593.2.2).bind fun bt597 => ((spec_l11Any.f k bt593.1 bt597.2.1 bt597.2.2).bind fun bt602 => (some (bt597.1, bt602.1))))
set_option maxHeartbeats 8000000 in
set_option maxRecDepth 100000 in
theorem spec_DrawPlayScore.calls (k : Nat) (A0 : Option Addr) (c0 : Nat) (l0 : List Int) (r1 : List (S26)) (r2 : List (S151)) (w : World) (hr0 : Kd.C (Kd.int .u8) w A0 l0.length l0) (hc0 : l0.length ≤ c0) (h : spec_DrawPlayScore.f k l0 = some (r1, r2)) :
  Calls Try.prog 22 #[.slice A0 l0.length c0] w fun e w' => ∃ v0_ v1_ : Value, e = .returned (.tuple #[v0_, v1_]) ∧ Kd.R k26 26 w' w.heap.size (fun _ => True) v0_ r1 ∧ Kd.R k151 151 w' w.heap.size (fun _ => True) v1_ r2 ∧ Below w.heap.size w w' := by
 have HR0 := sk_' hr0
 have HC0 := sk_' hc0
 clear hr0 hc0
 have HB := sk_' (Below.refl w.heap.size w)
 have H : ((spec_l1New.f k l0).bind fun bt593 => ((spec_l8Any.f k bt593.1 bt593.2.1 bt593.2.2).bind fun bt597 => ((spec_l11Any.f k bt593.1 bt597.2.1 bt597.2.2).bind fun bt602 => (some (bt597.1, bt602.1))))) = some (r1, r2) := h
 clear h
 replace H := bs_' H
 obtain ⟨⟨t593, t594, t595⟩, A20, H⟩ := H
 try dsimp only at H
 have A2 := sk_' A20
 clear A20
 replace H := bs_' H
 obtain ⟨⟨t597, t600, t601⟩, A30, H⟩ := H
 try dsimp only at H
 have A3 := sk_' A30
 clear A30
 replace H := bs_' H
 obtain ⟨⟨t602, t605, t606⟩, A40, H⟩ := H
 try dsimp only at H
 have A4 := sk_' A40
 clear A40
 simp only [Option.some.injEq, Prod.mk.injEq] at H
 obtain ⟨rfl, rfl⟩ := H
 go_enter Try.func22, Try.ntmps22
 go_wp2_with (first | ((with_reducible refine xj_' (f := 74) rfl ?_); refine goesL_ (some 7) rfl rfl Try.func74 (by kernel_rfl) rfl #[.slice A0 l0.length c0] rfl (by (try simp only [xm_', xc_', xn_']); first | done | rfl | (simp only [xd_', xt_']; rfl)) ?_; (with_reducible refine (spec_l1New.calls k _ _ l0 t593 t594 t595 w _ ?side1 ?side2 ?side3 A2.out).mono ?_); (case side1 => repeat (first | (with_reducible first | exact HB.out | apply pa_' | apply pn_' | apply pd_') | exact HB.out)); (case side2 => exact HR0.out); (case side3 => exact HC0.out); rintro e w5 ⟨g596, rfl, hi, hb, hb2⟩; refine ⟨_, rfl, ?_⟩; have n0_ := sk_' (hb); have n1_ := sk_' (hi); clear HB; have HB := n0_; have HI596 := n1_; clear n0_ n1_; (try clear hb); (try clear hb2); (try clear hk); (try clear hi)) | ((with_reducible refine xj_' (f := 75) rfl ?_); refine goesL_ (some 9) rfl rfl Try.func75 (by kernel_rfl) rfl #[.pointer (some ⟨g596, 0, none⟩)] rfl (by (try simp only [xm_', xc_', xn_']); first | done | rfl | (simp only [xd_', xt_']; rfl)) ?_; (with_reducible refine (spec_l8Any.calls k g596 t593 t594 t595 t597 t600 t601 w _ ?side1 ?side2 A3.out).mono ?_); (case side1 => repeat (first | (with_reducible first | exact HI596.out | apply IsS157.alloc | apply IsS157.drewN | apply IsS157.drew | apply IsS157.set_1 | apply IsS157.set_2) | exact HI596.out)); (case side2 => repeat (first | (with_reducible first | exact HB.out | apply pa_' | apply pn_' | apply pd_' | refine pt_' ?_ (IsS157.ge HI596.out)) | exact HB.out)); rintro e w6 ⟨v598, rfl, ho0, hi, hb, hk⟩; refine ⟨_, rfl, ?_⟩; have n0_ := sk_' (Kd.R_lower ho0 (ps_' (by repeat (first | (with_reducible first | exact HB.out | apply pa_' | apply pn_' | apply pd_' | refine pt_' ?_ (IsS157.ge HI596.out)) | exact HB.out)))); have n1_ := sk_' (hb); have n2_ := sk_' (hi); clear HB; clear HI596; have HO599 := n0_; have HB := n1_; have HI596 := n2_; clear n0_ n1_ n2_; (try clear hb); (try clear hb2); (try clear hk); (try clear hi); (try clear ho0)) | ((with_reducible refine xj_' (f := 94) rfl ?_); refine goesL_ (some 12) rfl rfl Try.func94 (by kernel_rfl) rfl #[.pointer (some ⟨g596, 0, none⟩)] rfl (by (try simp only [xm_', xc_', xn_']); first | done | rfl | (simp only [xd_', xt_']; rfl)) ?_; (with_reducible refine (spec_l11Any.calls k g596 t593 t600 t601 t602 t605 t606 w _ ?side1 ?side2 A4.out).mono ?_); (case side1 => repeat (first | (with_reducible first | exact HI596.out | apply IsS157.alloc | apply IsS157.drewN | apply IsS157.drew | apply IsS157.set_1 | apply IsS157.set_2) | exact HI596.out)); (case side2 => repeat (first | (with_reducible first | exact HB.out | apply pa_' | apply pn_' | apply pd_' | refine pt_' ?_ (IsS157.ge HI596.out)) | exact HB.out)); rintro e w7 ⟨v603, rfl, ho0, hi, hb, hk⟩; refine ⟨_, rfl, ?_⟩; have n0_ := sk_' (xi_' (Kd.R_keep (IsS157.apart (show IsS157 w _ g596 t593 t600 t601 from by repeat (first | (with_reducible first | exact HI596.out | apply IsS157.alloc | apply IsS157.drewN | apply IsS157.drew | apply IsS157.set_1 | apply IsS157.set_2) | exact HI596.out)) (by (with_reducible repeat (first | apply ra_' | apply rn_' | apply rd1_')); exact HO599.out) (by decide)) hk (fun _ h => h.2)) (fun _ h => h.1)); have n1_ := sk_' (Kd.R_lower ho0 (ps_' (by repeat (first | (with_reducible first | exact HB.out | apply pa_' | apply pn_' | apply pd_' | refine pt_' ?_ (IsS157.ge HI596.out)) | exact HB.out)))); have n2_ := sk_' (hb); have n3_ := sk_' (hi); clear HO599; clear HB; clear HI596; have HO599 := n0_; have HO604 := n1_; have HB := n2_; have HI596 := n3_; clear n0_ n1_ n2_ n3_; (try clear hb); (try clear hb2); (try clear hk); (try clear hi); (try clear ho0)))
 go_ret2
 exact ⟨_, _, by first | rfl | (simp [errW_none, errW_some] <;> rfl) | (simp [*, errW_none, errW_some] <;> rfl), by (with_reducible repeat (first | apply ra_' | apply rn_' | apply rd1_')); exact HO599.out, by (with_reducible repeat (first | apply ra_' | apply rn_' | apply rd1_')); exact HO604.out, by repeat (first | (with_reducible first | exact HB.out | apply pa_' | apply pn_' | apply pd_' | refine pt_' ?_ (IsS157.ge HI596.out)) | exact HB.out)⟩
end Go.Proofs.Ytbhlmeghbfmgiaa.F

namespace Go.Proofs
open Go.Shelf
def Try.laysSf_ren : Go.Shelf.Ren := ⟨fun | 6 => 139 | 15 => 135 | 14 => 173 | 28 => 171 | 29 => 172 | 20 => 182 | 21 => 183 | 22 => 184 | 23 => 185 | 24 => 186 | 25 => 187 | 26 => 188 | 27 => 189 | 46 => 192 | 47 => 178 | 48 => 179 | 49 => 193 | 50 => 194 | 57 => 195 | n => n, fun | 22 => 44 | 24 => 49 | 25 => 165 | 3 => 3 | 39 => 162 | 0 => 0 | 53 => 179 | 55 => 181 | 4 => 4 | 46 => 172 | 45 => 171 | 50 => 67 | 5 => 5 | 9 => 9 | 66 => 185 | 70 => 189 | 76 => 196 | 77 => 69 | n => n, fun | n => n⟩
theorem Try.laysSf : Go.Proofs.SlLaysF0.n6 Try.prog Try.laysSf_ren := {
  mixed := by kernel_rfl
  f6 := ⟨Try.f139.name, by decide, Try.func139.trans (congrArg some (by kernel_rfl))⟩
  f14 := ⟨Try.f173.name, by decide, Try.func173.trans (congrArg some (by kernel_rfl))⟩
  f15 := Try.func135.trans (congrArg some (by kernel_rfl))
  f20 := ⟨Try.f182.name, by decide, Try.func182.trans (congrArg some (by kernel_rfl))⟩
  f21 := ⟨Try.f183.name, by decide, Try.func183.trans (congrArg some (by kernel_rfl))⟩
  f22 := ⟨Try.f184.name, by decide, Try.func184.trans (congrArg some (by kernel_rfl))⟩
  f23 := ⟨Try.f185.name, by decide, Try.func185.trans (congrArg some (by kernel_rfl))⟩
  f24 := ⟨Try.f186.name, by decide, Try.func186.trans (congrArg some (by kernel_rfl))⟩
  f25 := ⟨Try.f187.name, by decide, Try.func187.trans (congrArg some (by kernel_rfl))⟩
  f26 := ⟨Try.f188.name, by decide, Try.func188.trans (congrArg some (by kernel_rfl))⟩
  f27 := ⟨Try.f189.name, by decide, Try.func189.trans (congrArg some (by kernel_rfl))⟩
  f28 := Try.func171.trans (congrArg some (by kernel_rfl))
  f29 := Try.func172.trans (congrArg some (by kernel_rfl))
  f46 := ⟨Try.f192.name, by decide, Try.func192.trans (congrArg some (by kernel_rfl))⟩
  f47 := Try.func178.trans (congrArg some (by kernel_rfl))
  f48 := Try.func179.trans (congrArg some (by kernel_rfl))
  f49 := ⟨Try.f193.name, by decide, Try.func193.trans (congrArg some (by kernel_rfl))⟩
  f50 := ⟨Try.f194.name, by decide, Try.func194.trans (congrArg some (by kernel_rfl))⟩
  f57 := ⟨Try.f195.name, by decide, Try.func195.trans (congrArg some (by kernel_rfl))⟩
  t0 := Try.underlying0
  a0 := Try.isAgg0
  z0 := Try.sizeOf0
  v0 := Try.zeroValue0
  t3 := Try.underlying3
  a3 := Try.isAgg3
  z3 := Try.sizeOf3
  v3 := Try.zeroValue3
  t4 := Try.underlying4
  a4 := Try.isAgg4
  z4 := Try.sizeOf4
  v4 := Try.zeroValue4
  t5 := Try.underlying5
  a5 := Try.isAgg5
  z5 := Try.sizeOf5
  v5 := Try.zeroValue5
  t9 := Try.underlying9
  a9 := Try.isAgg9
  z9 := Try.sizeOf9
  v9 := Try.zeroValue9
  t22 := Try.underlying44
  a22 := Try.isAgg44
  z22 := Try.sizeOf44
  v22 := Try.zeroValue44
  t25 := Try.underlying165
  a25 := Try.isAgg165
  z25 := Try.sizeOf165
  v25 := Try.zeroValue165
  t39 := Try.underlying162
  a39 := Try.isAgg162
  z39 := Try.sizeOf162
  v39 := Try.zeroValue162
  t45 := Try.underlying171
  a45 := Try.isAgg171
  z45 := Try.sizeOf171
  v45 := Try.zeroValue171
  t46 := Try.underlying172
  a46 := Try.isAgg172
  z46 := Try.sizeOf172
  v46 := Try.zeroValue172
  t50 := Try.underlying67
  a50 := Try.isAgg67
  z50 := Try.sizeOf67
  v50 := Try.zeroValue67
  t53 := Try.underlying179
  a53 := Try.isAgg179
  z53 := Try.sizeOf179
  v53 := Try.zeroValue179
  t55 := Try.underlying181
  a55 := Try.isAgg181
  z55 := Try.sizeOf181
  v55 := Try.zeroValue181
  t66 := Try.underlying185
  a66 := Try.isAgg185
  z66 := Try.sizeOf185
  v66 := Try.zeroValue185
  t70 := Try.underlying189
  a70 := Try.isAgg189
  z70 := Try.sizeOf189
  v70 := Try.zeroValue189
  t76 := Try.underlying196
  a76 := Try.isAgg196
  z76 := Try.sizeOf196
  v76 := Try.zeroValue196
  t77 := Try.underlying69
  a77 := Try.isAgg69
  z77 := Try.sizeOf69
  v77 := Try.zeroValue69 }
end Go.Proofs

namespace Go.Proofs.Ytbhlmeghbfmgiaa.F
open Go.RowKit Go.Proofs.YtbhlmeghbfmgiaaW.PrintWords Go.Proofs.YtbhlmeghbfmgiaaW.PrintLast Go.Proofs.YtbhlmeghbfmgiaaW.PrintMore
attribute [local go_sem] max2_int min2_int max_two min_two max_three min_three max_four min_four
set_option linter.unusedVariables false
set_option linter.unusedSimpArgs false
def cmp_isNaN_int.f (a0 : Int) : Option (Bool) := some (a0 != a0)
set_option maxHeartbeats 8000000 in
set_option maxRecDepth 100000 in
theorem cmp_isNaN_int.calls (a0 : Int) (r : Bool) (w : World) (h : cmp_isNaN_int.f a0 = some r) :
  Calls Try.prog 160 #[.int .i64 a0] w fun e w' => e = .returned (.bool r) ∧ Drawn0 w w' := by
 have H : (some (a0 != a0)) = some r := h
 clear h
 obtain rfl := Option.some.inj H
 go_enter Try.func160, Try.ntmps160
 go_wp2
 go_ret
 exact ⟨by first | rfl | (simp; done) | (simp [*]; done), by repeat (first | exact Drawn0.refl _ | apply Drawn0.step)⟩
end Go.Proofs.Ytbhlmeghbfmgiaa.F

namespace Go.Proofs.Ytbhlmeghbfmgiaa.F
open Go.RowKit Go.Proofs.YtbhlmeghbfmgiaaW.PrintWords Go.Proofs.YtbhlmeghbfmgiaaW.PrintLast Go.Proofs.YtbhlmeghbfmgiaaW.PrintMore
attribute [local go_sem] max2_int min2_int max_two min_two max_three min_three max_four min_four
set_option linter.unusedVariables false
set_option linter.unusedSimpArgs false
def cmp_Compare_int.f (a0 : Int) (a1 : Int) : Option (Int) := (cmp_isNaN_int.f a0).bind fun t299 => ((cmp_isNaN_int.f a1).bind fun t300 => (if t299 = true then (if t300 = true then (some 0) else (some (-1))) else (if t300 = true then (some 1) else (if a0 < a1 then (some (-1)) else (if a0 > a1 then (some 1) else (some 0))))))
set_option maxHeartbeats 8000000 in
set_option maxRecDepth 100000 in
theorem cmp_Compare_int.calls (a0 : Int) (a1 : Int) (r : Int) (w : World) (h : cmp_Compare_int.f a0 a1 = some r) :
  Calls Try.prog 131 #[.int .i64 a0, .int .i64 a1] w fun e w' => e = .returned (.int .i64 r) ∧ Drawn0 w w' := by
 have H : ((cmp_isNaN_int.f a0).bind fun t299 => ((cmp_isNaN_int.f a1).bind fun t300 => (if t299 = true then (if t300 = true then (some 0) else (some (-1))) else (if t300 = true then (some 1) else (if a0 < a1 then (some (-1)) else (if a0 > a1 then (some 1) else (some 0))))))) = some r := h
 clear h
 replace H := bs_' H
 obtain ⟨t299, A30, H⟩ := H
 try dsimp only at H
 have A3 := sk_' A30
 clear A30
 replace H := bs_' H
 obtain ⟨t300, A40, H⟩ := H
 try dsimp only at H
 have A4 := sk_' A40
 clear A40
 by_cases c5 : t299 = true
 ·
  subst c5
  rw [if_pos rfl] at H
  by_cases c6 : t300 = true
  ·
   subst c6
   rw [if_pos rfl] at H
   obtain rfl := Option.some.inj H
   go_enter Try.func131, Try.ntmps131
   go_wp2_with (first | ((with_reducible refine xj_' (f := 160) rfl ?_); refine goesL_ (some 8) rfl rfl Try.func160 (by kernel_rfl) rfl #[.int .i64 a0] rfl (by (try simp only [xm_', xc_', xn_']); first | done | rfl | (simp only [xd_', xt_']; rfl)) ?_; (with_reducible refine (cmp_isNaN_int.calls a0 true _ A3.out).mono ?_); rintro e w' ⟨rfl, ⟨nd, rfl⟩⟩; refine ⟨_, rfl, ?_⟩) | ((with_reducible refine xj_' (f := 160) rfl ?_); refine goesL_ (some 10) rfl rfl Try.func160 (by kernel_rfl) rfl #[.int .i64 a1] rfl (by (try simp only [xm_', xc_', xn_']); first | done | rfl | (simp only [xd_', xt_']; rfl)) ?_; (with_reducible refine (cmp_isNaN_int.calls a1 true _ A4.out).mono ?_); rintro e w' ⟨rfl, ⟨nd, rfl⟩⟩; refine ⟨_, rfl, ?_⟩))
   go_ret
   exact ⟨by first | rfl | (simp; done) | (simp [*]; done), by repeat (first | exact Drawn0.refl _ | apply Drawn0.step)⟩
  replace c6 := Bool.eq_false_iff.mpr c6
  subst c6
  rw [if_neg (show ¬ (false = true) by decide)] at H
  obtain rfl := Option.some.inj H
  go_enter Try.func131, Try.ntmps131
  go_wp2_with (first | ((with_reducible refine xj_' (f := 160) rfl ?_); refine goesL_ (some 8) rfl rfl Try.func160 (by kernel_rfl) rfl #[.int .i64 a0] rfl (by (try simp only [xm_', xc_', xn_']); first | done | rfl | (simp only [xd_', xt_']; rfl)) ?_; (with_reducible refine (cmp_isNaN_int.calls a0 true _ A3.out).mono ?_); rintro e w' ⟨rfl, ⟨nd, rfl⟩⟩; refine ⟨_, rfl, ?_⟩) | ((with_reducible refine xj_' (f := 160) rfl ?_); refine goesL_ (some 10) rfl rfl Try.func160 (by kernel_rfl) rfl #[.int .i64 a1] rfl (by (try simp only [xm_', xc_', xn_']); first | done | rfl | (simp only [xd_', xt_']; rfl)) ?_; (with_reducible refine (cmp_isNaN_int.calls a1 false _ A4.out).mono ?_); rintro e w' ⟨rfl, ⟨nd, rfl⟩⟩; refine ⟨_, rfl, ?_⟩))
  go_ret
  exact ⟨by first | rfl | (simp; done) | (simp [*]; done), by repeat (first | exact Drawn0.refl _ | apply Drawn0.step)⟩
 replace c5 := Bool.eq_false_iff.mpr c5
 subst c5
 rw [if_neg (show ¬ (false = true) by decide)] at H
 by_cases c7 : t300 = true
 ·
  subst c7
  rw [if_pos rfl] at H
  obtain rfl := Option.some.inj H
  go_enter Try.func131, Try.ntmps131
  go_wp2_with (first | ((with_reducible refine xj_' (f := 160) rfl ?_); refine goesL_ (some 8) rfl rfl Try.func160 (by kernel_rfl) rfl #[.int .i64 a0] rfl (by (try simp only [xm_', xc_', xn_']); first | done | rfl | (simp only [xd_', xt_']; rfl)) ?_; (with_reducible refine (cmp_isNaN_int.calls a0 false _ A3.out).mono ?_); rintro e w' ⟨rfl, ⟨nd, rfl⟩⟩; refine ⟨_, rfl, ?_⟩) | ((with_reducible refine xj_' (f := 160) rfl ?_); refine goesL_ (some 10) rfl rfl Try.func160 (by kernel_rfl) rfl #[.int .i64 a1] rfl (by (try simp only [xm_', xc_', xn_']); first | done | rfl | (simp only [xd_', xt_']; rfl)) ?_; (with_reducible refine (cmp_isNaN_int.calls a1 true _ A4.out).mono ?_); rintro e w' ⟨rfl, ⟨nd, rfl⟩⟩; refine ⟨_, rfl, ?_⟩))
  go_ret
  exact ⟨by first | rfl | (simp; done) | (simp [*]; done), by repeat (first | exact Drawn0.refl _ | apply Drawn0.step)⟩
 replace c7 := Bool.eq_false_iff.mpr c7
 subst c7
 rw [if_neg (show ¬ (false = true) by decide)] at H
 by_cases c8 : a0 < a1
 ·
  rw [if_pos c8] at H
  have c8b0 : decide (a0 < a1) = true := decide_eq_true c8
  clear c8
  obtain rfl := Option.some.inj H
  go_enter Try.func131, Try.ntmps131
  go_wp2_with (first | ((with_reducible refine xj_' (f := 160) rfl ?_); refine goesL_ (some 8) rfl rfl Try.func160 (by kernel_rfl) rfl #[.int .i64 a0] rfl (by (try simp only [xm_', xc_', xn_']); first | done | rfl | (simp only [xd_', xt_']; rfl)) ?_; (with_reducible refine (cmp_isNaN_int.calls a0 false _ A3.out).mono ?_); rintro e w' ⟨rfl, ⟨nd, rfl⟩⟩; refine ⟨_, rfl, ?_⟩) | ((with_reducible refine xj_' (f := 160) rfl ?_); refine goesL_ (some 10) rfl rfl Try.func160 (by kernel_rfl) rfl #[.int .i64 a1] rfl (by (try simp only [xm_', xc_', xn_']); first | done | rfl | (simp only [xd_', xt_']; rfl)) ?_; (with_reducible refine (cmp_isNaN_int.calls a1 false _ A4.out).mono ?_); rintro e w' ⟨rfl, ⟨nd, rfl⟩⟩; refine ⟨_, rfl, ?_⟩))
  go_ret
  exact ⟨by first | rfl | (simp; done) | (simp [*]; done), by repeat (first | exact Drawn0.refl _ | apply Drawn0.step)⟩
 rw [if_neg c8] at H
 have c8b0 : decide (a0 < a1) = false := decide_eq_false c8
 clear c8
 by_cases c9 : a0 > a1
 ·
  rw [if_pos c9] at H
  have c9b0 : decide (a1 < a0) = true := decide_eq_true c9
  clear c9
  obtain rfl := Option.some.inj H
  go_enter Try.func131, Try.ntmps131
  go_wp2_with (first | ((with_reducible refine xj_' (f := 160) rfl ?_); refine goesL_ (some 8) rfl rfl Try.func160 (by kernel_rfl) rfl #[.int .i64 a0] rfl (by (try simp only [xm_', xc_', xn_']); first | done | rfl | (simp only [xd_', xt_']; rfl)) ?_; (with_reducible refine (cmp_isNaN_int.calls a0 false _ A3.out).mono ?_); rintro e w' ⟨rfl, ⟨nd, rfl⟩⟩; refine ⟨_, rfl, ?_⟩) | ((with_reducible refine xj_' (f := 160) rfl ?_); refine goesL_ (some 10) rfl rfl Try.func160 (by kernel_rfl) rfl #[.int .i64 a1] rfl (by (try simp only [xm_', xc_', xn_']); first | done | rfl | (simp only [xd_', xt_']; rfl)) ?_; (with_reducible refine (cmp_isNaN_int.calls a1 false _ A4.out).mono ?_); rintro e w' ⟨rfl, ⟨nd, rfl⟩⟩; refine ⟨_, rfl, ?_⟩))
  go_ret
  exact ⟨by first | rfl | (simp; done) | (simp [*]; done), by repeat (first | exact Drawn0.refl _ | apply Drawn0.step)⟩
 rw [if_neg c9] at H
 have c9b0 : decide (a1 < a0) = false := decide_eq_false c9
 clear c9
 obtain rfl := Option.some.inj H
 go_enter Try.func131, Try.ntmps131
 go_wp2_with (first | ((with_reducible refine xj_' (f := 160) rfl ?_); refine goesL_ (some 8) rfl rfl Try.func160 (by kernel_rfl) rfl #[.int .i64 a0] rfl (by (try simp only [xm_', xc_', xn_']); first | done | rfl | (simp only [xd_', xt_']; rfl)) ?_; (with_reducible refine (cmp_isNaN_int.calls a0 false _ A3.out).mono ?_); rintro e w' ⟨rfl, ⟨nd, rfl⟩⟩; refine ⟨_, rfl, ?_⟩) | ((with_reducible refine xj_' (f := 160) rfl ?_); refine goesL_ (some 10) rfl rfl Try.func160 (by kernel_rfl) rfl #[.int .i64 a1] rfl (by (try simp only [xm_', xc_', xn_']); first | done | rfl | (simp only [xd_', xt_']; rfl)) ?_; (with_reducible refine (cmp_isNaN_int.calls a1 false _ A4.out).mono ?_); rintro e w' ⟨rfl, ⟨nd, rfl⟩⟩; refine ⟨_, rfl, ?_⟩))
 go_ret
 exact ⟨by first | rfl | (simp; done) | (simp [*]; done), by repeat (first | exact Drawn0.refl _ | apply Drawn0.step)⟩
end Go.Proofs.Ytbhlmeghbfmgiaa.F

namespace Go.Proofs.Ytbhlmeghbfmgiaa.F
open Go.RowKit Go.Proofs.YtbhlmeghbfmgiaaW.PrintWords Go.Proofs.YtbhlmeghbfmgiaaW.PrintLast Go.Proofs.YtbhlmeghbfmgiaaW.PrintMore
attribute [local go_sem] max2_int min2_int max_two min_two max_three min_three max_four min_four
set_option linter.unusedVariables false
set_option linter.unusedSimpArgs false
def cmp_Or_int.l0 : Nat → Int → List Int → Int → Int → Option (Int)
 | 0, _, _, _, _ => none
 | k + 1, x3, x6, x7, x8 => if x8 < x7 then (if 0 ≤ x8 then (if x8 < (x6.length : Int) then (if (rd x6 x8) = x3 then (cmp_Or_int.l0 k x3 x6 x7 (wrap64 (x8 + 1))) else (some (rd x6 x8))) else (none)) else (none)) else (some x3)
def cmp_Or_int.f (k : Nat) (l0 : List Int) : Option (Int) := cmp_Or_int.l0 k 0 l0 (l0.length : Int) 0
set_option maxHeartbeats 8000000 in
set_option maxRecDepth 100000 in
theorem cmp_Or_int.calls (k : Nat) (A0 : Option Addr) (c0 : Nat) (l0 : List Int) (r : Int) (w : World) (hr0 : Kd.C (Kd.int .i64) w A0 l0.length l0) (hc0 : l0.length ≤ c0) (h : cmp_Or_int.f k l0 = some r) :
  Calls Try.prog 130 #[.slice A0 l0.length c0] w fun e w' => e = .returned (.int .i64 r) ∧ Drawn0 w w' := by
 have HR0 := sk_' hr0
 have HC0 := sk_' hc0
 clear hr0 hc0
 have H : (cmp_Or_int.l0 k 0 l0 (l0.length : Int) 0) = some r := h
 clear h
 have H' := sk_' H
 clear H
 go_enter Try.func130, Try.ntmps130
 go_wp2
 go_loopg [8] k (fun kq v8 w' => ∃ (x8_1 : Int), v8 = .int .i64 x8_1 ∧ Aside0 (cmp_Or_int.l0 kq 0 l0 (l0.length : Int) x8_1 = some r) ∧ Aside0 (kq ≤ k) ∧ Drawn0 w w')
 case atStart => exact ⟨(0), (by first | rfl | (simp; done) | (simp [*]; done)), H', ⟨Nat.le_refl _⟩, by repeat (first | exact Drawn0.refl _ | apply Drawn0.step)⟩
 case round =>
  clear H'
  try clear c1
  obtain ⟨x8_1, rfl, HA, HK1, ⟨m1, rfl⟩⟩ := hrel
  cases gk with
  | zero => exact absurd HA.out (by simp [cmp_Or_int.l0])
  | succ k1 =>
   have H := HA.out
   clear HA
   simp only [cmp_Or_int.l0] at H
   by_cases c2 : x8_1 < (l0.length : Int)
   ·
    rw [if_pos c2] at H
    have c2b0 : decide (x8_1 < (l0.length : Int)) = true := decide_eq_true c2
    clear c2
    by_cases c3 : 0 ≤ x8_1
    ·
     rw [if_pos c3] at H
     have c3b0 : decide (0 ≤ x8_1) = true := decide_eq_true c3
     clear c3
     by_cases c4 : x8_1 < (l0.length : Int)
     ·
      rw [if_pos c4] at H
      have c4b0 : decide (x8_1 < (l0.length : Int)) = true := decide_eq_true c4
      clear c4
      by_cases c5 : (rd l0 x8_1) = 0
      ·
       rw [if_pos c5] at H
       have c5b0 : ((rd l0 x8_1) == 0) = true := beq_iff_eq.mpr c5
       have c5b1 : ((rd l0 x8_1) != 0) = false := bne_eq_false_iff_eq.mpr c5
       clear c5
       have H' := sk_' H
       clear H
       have p298 : 0 ≤ (x8_1 : Int) := od_' (by first | (with_reducible assumption) | assumption)
       have q298 : x8_1 < (l0.length : Int) := od_' (by first | (with_reducible assumption) | assumption)
       obtain ⟨ad298, e298, hx298_0⟩ := Kd.at_int HR0.out x8_1 p298 q298
       cases e298
       replace p298 := eq_true p298
       replace q298 := eq_true q298
       go_wp2
       go_roundg k1
       case measure => have := HK1.out; omega
       case rel => exact ⟨(wrap64 (x8_1 + 1)), (by first | rfl | (simp; done) | (simp [*]; done)), H', ⟨by have := HK1.out; omega⟩, by repeat (first | exact Drawn0.refl _ | apply Drawn0.step)⟩
      rw [if_neg c5] at H
      have c5b0 : ((rd l0 x8_1) == 0) = false := beq_eq_false_iff_ne.mpr c5
      have c5b1 : ((rd l0 x8_1) != 0) = true := bne_iff_ne.mpr c5
      obtain rfl := Option.some.inj H
      have p298 : 0 ≤ (x8_1 : Int) := od_' (by first | (with_reducible assumption) | assumption)
      have q298 : x8_1 < (l0.length : Int) := od_' (by first | (with_reducible assumption) | assumption)
      obtain ⟨ad298, e298, hx298_0⟩ := Kd.at_int HR0.out x8_1 p298 q298
      cases e298
      replace p298 := eq_true p298
      replace q298 := eq_true q298
      go_wp2
      go_ret
      exact ⟨by first | rfl | (simp; done) | (simp [*]; done), by repeat (first | exact Drawn0.refl _ | apply Drawn0.step)⟩
     rw [if_neg c4] at H
     exact absurd H (by simp)
    rw [if_neg c3] at H
    exact absurd H (by simp)
   rw [if_neg c2] at H
   have c2b0 : decide (x8_1 < (l0.length : Int)) = false := decide_eq_false c2
   clear c2
   obtain rfl := Option.some.inj H
   go_wp2
   go_ret
   exact ⟨by first | rfl | (simp; done) | (simp [*]; done), by repeat (first | exact Drawn0.refl _ | apply Drawn0.step)⟩
end Go.Proofs.Ytbhlmeghbfmgiaa.F

namespace Go.Proofs.Ytbhlmeghbfmgiaa.F
open Go.RowKit Go.Proofs.YtbhlmeghbfmgiaaW.PrintWords Go.Proofs.YtbhlmeghbfmgiaaW.PrintLast Go.Proofs.YtbhlmeghbfmgiaaW.PrintMore
attribute [local go_sem] max2_int min2_int max_two min_two max_three min_three max_four min_four
set_option linter.unusedVariables false
set_option linter.unusedSimpArgs false
def impl_eventOrder.f (k : Nat) (a0_0 : Int) (a0_1 : Int) (a0_2 : Int) (a0_3 : Int) (a1_0 : Int) (a1_1 : Int) (a1_2 : Int) (a1_3 : Int) : Option (Int) := (cmp_Compare_int.f a0_0 a1_0).bind fun t303 => ((cmp_Compare_int.f a0_3 a1_3).bind fun t304 => ((cmp_Compare_int.f a0_2 a1_2).bind fun t305 => ((cmp_Or_int.f k (([t303, t304, t305] : List Int))).bind fun t309 => (some t309))))
def impl_eventOrder.T1 : Bool × List (List Nat × List Nat) := (true, [([], []), ([0], [0]), ([], []), ([2], [2]), ([1, 3], [1, 3]), ([], []), ([5], [5]), ([], []), ([7], [7]), ([6, 8, 4], [6, 8]), ([], []), ([10], [10]), ([], []), ([12], [12]), ([11, 13, 9], [11, 13]), ([4, 9, 14], [4, 9, 14]), ([15, 14], [15]), ([16, 16, 0, 1, 2, 3, 4, 5, 6, 7, 8, 9, 10, 11, 12, 13, 14, 15, 16], [16])])
def impl_eventOrder.B1 : List Nat := [0, 1, 0, 4, 15, 0, 32, 0, 128, 511, 0, 1024, 0, 4096, 16383, 32767, 65535, 131071]
theorem impl_eventOrder.tab1 : rtab .any (opsOf Try.f81 1) = impl_eventOrder.T1 := by kernel_rfl
theorem impl_eventOrder.bits1 : waitsOk impl_eventOrder.T1.2 impl_eventOrder.B1 = true := by kernel_rfl
set_option maxHeartbeats 8000000 in
set_option maxRecDepth 100000 in
theorem impl_eventOrder.calls (k : Nat) (a0_0 : Int) (a0_1 : Int) (a0_2 : Int) (a0_3 : Int) (a1_0 : Int) (a1_1 : Int) (a1_2 : Int) (a1_3 : Int) (r : Int) (w : World) (h : impl_eventOrder.f k a0_0 a0_1 a0_2 a0_3 a1_0 a1_1 a1_2 a1_3 = some r) :
  Calls Try.prog 81 #[.agg #[.int .i64 a0_0, .int .i64 a0_1, .int .i64 a0_2, .int .i64 a0_3], .agg #[.int .i64 a1_0, .int .i64 a1_1, .int .i64 a1_2, .int .i64 a1_3]] w fun e w' => e = .returned (.int .i64 r) ∧ Below w.heap.size w w' := by
 have hu26 := Try.underlying26
 have HB := sk_' (Below.refl w.heap.size w)
 have H : ((cmp_Compare_int.f a0_0 a1_0).bind fun t303 => ((cmp_Compare_int.f a0_3 a1_3).bind fun t304 => ((cmp_Compare_int.f a0_2 a1_2).bind fun t305 => ((cmp_Or_int.f k (([t303, t304, t305] : List Int))).bind fun t309 => (some t309))))) = some r := h
 clear h
 replace H := bs_' H
 obtain ⟨t303, A30, H⟩ := H
 try dsimp only at H
 have A3 := sk_' A30
 clear A30
 replace H := bs_' H
 obtain ⟨t304, A40, H⟩ := H
 try dsimp only at H
 have A4 := sk_' A40
 clear A40
 replace H := bs_' H
 obtain ⟨t305, A50, H⟩ := H
 try dsimp only at H
 have A5 := sk_' A50
 clear A50
 obtain ⟨y306, hy306⟩ : ∃ y_ : List Int, y_ = (([t303, t304, t305] : List Int)) := ⟨_, rfl⟩
 replace H : ((cmp_Or_int.f k y306).bind fun t309 => (some t309)) = some r := by first | (rw [hy306]; with_reducible exact H) | (have H2_ := (Option.bind_some _ _).symm.trans H; rw [hy306]; with_reducible exact H2_) | (have H2_ := (Option.bind_some _ _).symm.trans H; with_reducible exact H2_) | with_reducible exact H | (rw [hy306]; exact H) | exact H
 have Ny306 := sk_' hy306
 clear hy306
 replace H := bs_' H
 obtain ⟨t309, A60, H⟩ := H
 try dsimp only at H
 have A6 := sk_' A60
 clear A60
 obtain rfl := Option.some.inj H
 go_enter Try.func81, Try.ntmps81
 try go_wp2_with (first | ((with_reducible refine gate_dst (N := 2) rfl ?_); refine box_event ?hg (N := 2) ?hd (cs := #[.int .i64 a0_0, .int .i64 a0_1, .int .i64 a0_2, .int .i64 a0_3]) (t := 26) ?hr ?_; (case hd => rfl); (case hg => rfl); (case hr => first | (go_simp; done) | (go_simp; rfl)); intro gb301 hg w7 hbox hb; have n0_ := sk_' (pp_' (by repeat (first | (with_reducible first | exact HB.out | apply pa_' | apply pn_' | apply pd_') | exact HB.out)) hb); have n1_ := sk_' (hbox); have n2_ := sk_' ((by rw [hg]; exact (ps_' (by repeat (first | (with_reducible first | exact HB.out | apply pa_' | apply pn_' | apply pd_') | exact HB.out))) : w.heap.size ≤ gb301)); have n3_ := sk_' ((by rw [hg]; exact (ps_' (by repeat (first | (with_reducible first | exact HB.out | apply pa_' | apply pn_' | apply pd_') | exact HB.out))) : w.heap.size ≤ gb301)); clear HB; have HB := n0_; have BK301 := n1_; have GW301 := n2_; have GE301 := n3_; clear n0_ n1_ n2_ n3_; clear hb hbox hg) | ((with_reducible refine gate_dst (N := 3) rfl ?_); refine box_event ?hg (N := 3) ?hd (cs := #[.int .i64 a1_0, .int .i64 a1_1, .int .i64 a1_2, .int .i64 a1_3]) (t := 26) ?hr ?_; (case hd => rfl); (case hg => rfl); (case hr => first | (go_simp; done) | (go_simp; rfl)); intro gb302 hg w8 hbox hb; have n0_ := sk_' (blk_below (g := gb301) (o := .cells #[.int .i64 a0_0, .int .i64 a0_1, .int .i64 a0_2, .int .i64 a0_3] 26 (0, 0)) (by (with_reducible repeat (first | refine kn_' ?_ _ | refine kd_' ?_ | refine ka_' ?_ _)); exact BK301.out) hb); have n1_ := sk_' (pp_' (by repeat (first | (with_reducible first | exact HB.out | apply pa_' | apply pn_' | apply pd_' | refine pt_' ?_ GE301.out) | exact HB.out)) hb); have n2_ := sk_' (hbox); have n3_ := sk_' ((by rw [hg]; exact (ps_' (by repeat (first | (with_reducible first | exact HB.out | apply pa_' | apply pn_' | apply pd_' | refine pt_' ?_ GE301.out) | exact HB.out))) : w.heap.size ≤ gb302)); have n4_ := sk_' ((by rw [hg]; exact (ps_' (by repeat (first | (with_reducible first | exact HB.out | apply pa_' | apply pn_' | apply pd_' | refine pt_' ?_ GE301.out) | exact HB.out))) : w.heap.size ≤ gb302)); have n5_ := sk_' ((by rw [hg]; exact Nat.ne_of_lt (blk_lt (g := gb301) (o := .cells #[.int .i64 a0_0, .int .i64 a0_1, .int .i64 a0_2, .int .i64 a0_3] 26 (0, 0)) (by (with_reducible repeat (first | refine kn_' ?_ _ | refine kd_' ?_ | refine ka_' ?_ _)); exact BK301.out)) : gb301 ≠ gb302)); have n6_ := sk_' ((by rw [hg]; exact Nat.ne_of_gt (blk_lt (g := gb301) (o := .cells #[.int .i64 a0_0, .int .i64 a0_1, .int .i64 a0_2, .int .i64 a0_3] 26 (0, 0)) (by (with_reducible repeat (first | refine kn_' ?_ _ | refine kd_' ?_ | refine ka_' ?_ _)); exact BK301.out)) : gb302 ≠ gb301)); clear BK301; clear HB; have BK301 := n0_; have HB := n1_; have BK302 := n2_; have GW302 := n3_; have GE302 := n4_; have NB301_302 := n5_; have NB302_301 := n6_; clear n0_ n1_ n2_ n3_ n4_ n5_ n6_; clear hb hbox hg))
 have n0_ := sk_' (kd_' BK301.out)
 have n1_ := sk_' (kd_' BK302.out)
 have n2_ := sk_' (pd_' HB.out)
 clear BK301
 clear BK302
 clear HB
 have BK301 := n0_
 have BK302 := n1_
 have HB := n2_
 clear n0_ n1_ n2_
 refine start_ (n := 18) (S := fun w' => w'.cell? ⟨gb301, 0, none⟩ = some (.int .i64 a0_0) ∧ w'.cell? ⟨gb301, 1, none⟩ = some (.int .i64 a0_1) ∧ w'.cell? ⟨gb301, 2, none⟩ = some (.int .i64 a0_2) ∧ w'.cell? ⟨gb301, 3, none⟩ = some (.int .i64 a0_3) ∧ w'.cell? ⟨gb302, 0, none⟩ = some (.int .i64 a1_0) ∧ w'.cell? ⟨gb302, 1, none⟩ = some (.int .i64 a1_1) ∧ w'.cell? ⟨gb302, 2, none⟩ = some (.int .i64 a1_2) ∧ w'.cell? ⟨gb302, 3, none⟩ = some (.int .i64 a1_3)) (ds := []) #[false, false, false, false, false, false, false, false, false, false, false, false, false, false, false, false, false, false] (by kernel_rfl) rfl rfl ⟨(kc_' BK301.out 0).trans rfl, (kc_' BK301.out 1).trans rfl, (kc_' BK301.out 2).trans rfl, (kc_' BK301.out 3).trans rfl, (kc_' BK302.out 0).trans rfl, (kc_' BK302.out 1).trans rfl, (kc_' BK302.out 2).trans rfl, (kc_' BK302.out 3).trans rfl⟩ (fun hHeld => ?_); refine with_tabW impl_eventOrder.tab1 impl_eventOrder.bits1 (fun HT_ HW_ => ?_)
 generalize w8.drew = w9 at BK301 BK302 HB hHeld ⊢
 refine pure_ (i := 0) (N := some 5) (v := ?_) (a' := ?_) #[true, false, false, false, false, false, false, false, false, false, false, false, false, false, false, false, false, false] rfl rfl (any_of HT_.out (by kernel_rfl)) (fun _ _ _ h => h) (Or.inl ⟨by rfl, ?_⟩) ?_ ?_
 rotate_left
 ·
  intro w'
  go_simp
  with_reducible rfl
 rotate_left
 ·
  simp only [Act.put, sa_', sz_', sc_', i64_w, i32_w]
  rfl
 refine pure_ (i := 2) (N := some 7) (v := ?_) (a' := ?_) #[true, false, true, false, false, false, false, false, false, false, false, false, false, false, false, false, false, false] rfl rfl (any_of HT_.out (by kernel_rfl)) (fun _ _ _ h => h) (Or.inl ⟨by rfl, ?_⟩) ?_ ?_
 rotate_left
 ·
  intro w'
  go_simp
  with_reducible rfl
 rotate_left
 ·
  simp only [Act.put, sa_', sz_', sc_', i64_w, i32_w]
  rfl
 refine pure_ (i := 5) (N := some 10) (v := ?_) (a' := ?_) #[true, false, true, false, false, true, false, false, false, false, false, false, false, false, false, false, false, false] rfl rfl (any_of HT_.out (by kernel_rfl)) (fun _ _ _ h => h) (Or.inl ⟨by rfl, ?_⟩) ?_ ?_
 rotate_left
 ·
  intro w'
  go_simp
  with_reducible rfl
 rotate_left
 ·
  simp only [Act.put, sa_', sz_', sc_', i64_w, i32_w]
  rfl
 refine pure_ (i := 7) (N := some 12) (v := ?_) (a' := ?_) #[true, false, true, false, false, true, false, true, false, false, false, false, false, false, false, false, false, false] rfl rfl (any_of HT_.out (by kernel_rfl)) (fun _ _ _ h => h) (Or.inl ⟨by rfl, ?_⟩) ?_ ?_
 rotate_left
 ·
  intro w'
  go_simp
  with_reducible rfl
 rotate_left
 ·
  simp only [Act.put, sa_', sz_', sc_', i64_w, i32_w]
  rfl
 refine pure_ (i := 10) (N := some 15) (v := ?_) (a' := ?_) #[true, false, true, false, false, true, false, true, false, false, true, false, false, false, false, false, false, false] rfl rfl (any_of HT_.out (by kernel_rfl)) (fun _ _ _ h => h) (Or.inl ⟨by rfl, ?_⟩) ?_ ?_
 rotate_left
 ·
  intro w'
  go_simp
  with_reducible rfl
 rotate_left
 ·
  simp only [Act.put, sa_', sz_', sc_', i64_w, i32_w]
  rfl
 refine pure_ (i := 12) (N := some 17) (v := ?_) (a' := ?_) #[true, false, true, false, false, true, false, true, false, false, true, false, true, false, false, false, false, false] rfl rfl (any_of HT_.out (by kernel_rfl)) (fun _ _ _ h => h) (Or.inl ⟨by rfl, ?_⟩) ?_ ?_
 rotate_left
 ·
  intro w'
  go_simp
  with_reducible rfl
 rotate_left
 ·
  simp only [Act.put, sa_', sz_', sc_', i64_w, i32_w]
  rfl
 refine take_ (i := 1) (N := some 6) (v := ?_) (a' := ?_) #[true, true, true, false, false, true, false, true, false, false, true, false, true, false, false, false, false, false] rfl rfl (take_ofW HT_.out HW_.out (by kernel_rfl)) (fun _ _ _ h => h) (Or.inl ⟨by rfl, ?_⟩) hHeld ?_ ?_
 rotate_left
 ·
  rintro w' ⟨s0, s1, s2, s3, s4, s5, s6, s7⟩
  go_simp
  with_reducible rfl
 rotate_left
 ·
  simp only [Act.put, sa_', sz_', sc_', i64_w, i32_w]
  rfl
 refine take_ (i := 3) (N := some 8) (v := ?_) (a' := ?_) #[true, true, true, true, false, true, false, true, false, false, true, false, true, false, false, false, false, false] rfl rfl (take_ofW HT_.out HW_.out (by kernel_rfl)) (fun _ _ _ h => h) (Or.inl ⟨by rfl, ?_⟩) hHeld ?_ ?_
 rotate_left
 ·
  rintro w' ⟨s0, s1, s2, s3, s4, s5, s6, s7⟩
  go_simp
  with_reducible rfl
 rotate_left
 ·
  simp only [Act.put, sa_', sz_', sc_', i64_w, i32_w]
  rfl
 refine take_ (i := 6) (N := some 11) (v := ?_) (a' := ?_) #[true, true, true, true, false, true, true, true, false, false, true, false, true, false, false, false, false, false] rfl rfl (take_ofW HT_.out HW_.out (by kernel_rfl)) (fun _ _ _ h => h) (Or.inl ⟨by rfl, ?_⟩) hHeld ?_ ?_
 rotate_left
 ·
  rintro w' ⟨s0, s1, s2, s3, s4, s5, s6, s7⟩
  go_simp
  with_reducible rfl
 rotate_left
 ·
  simp only [Act.put, sa_', sz_', sc_', i64_w, i32_w]
  rfl
 refine take_ (i := 8) (N := some 13) (v := ?_) (a' := ?_) #[true, true, true, true, false, true, true, true, true, false, true, false, true, false, false, false, false, false] rfl rfl (take_ofW HT_.out HW_.out (by kernel_rfl)) (fun _ _ _ h => h) (Or.inl ⟨by rfl, ?_⟩) hHeld ?_ ?_
 rotate_left
 ·
  rintro w' ⟨s0, s1, s2, s3, s4, s5, s6, s7⟩
  go_simp
  with_reducible rfl
 rotate_left
 ·
  simp only [Act.put, sa_', sz_', sc_', i64_w, i32_w]
  rfl
 refine take_ (i := 11) (N := some 16) (v := ?_) (a' := ?_) #[true, true, true, true, false, true, true, true, true, false, true, true, true, false, false, false, false, false] rfl rfl (take_ofW HT_.out HW_.out (by kernel_rfl)) (fun _ _ _ h => h) (Or.inl ⟨by rfl, ?_⟩) hHeld ?_ ?_
 rotate_left
 ·
  rintro w' ⟨s0, s1, s2, s3, s4, s5, s6, s7⟩
  go_simp
  with_reducible rfl
 rotate_left
 ·
  simp only [Act.put, sa_', sz_', sc_', i64_w, i32_w]
  rfl
 refine take_ (i := 13) (N := some 18) (v := ?_) (a' := ?_) #[true, true, true, true, false, true, true, true, true, false, true, true, true, true, false, false, false, false] rfl rfl (take_ofW HT_.out HW_.out (by kernel_rfl)) (fun _ _ _ h => h) (Or.inl ⟨by rfl, ?_⟩) hHeld ?_ ?_
 rotate_left
 ·
  rintro w' ⟨s0, s1, s2, s3, s4, s5, s6, s7⟩
  go_simp
  with_reducible rfl
 rotate_left
 ·
  simp only [Act.put, sa_', sz_', sc_', i64_w, i32_w]
  rfl
 refine one_ (i := 4) (N := some 9) #[true, true, true, true, true, true, true, true, true, false, true, true, true, true, false, false, false, false] rfl rfl (one_of HT_.out (by kernel_rfl)) (by decide) (fun K hK => ?_)
 refine goes_ Try.func131 (by kernel_rfl) rfl #[.int .i64 a0_0, .int .i64 a1_0] (by rfl) rfl rfl (by (try simp only [xm_', xc_', xn_']); first | done | rfl | (simp only [xd_', xt_']; rfl)) ?_
 with_reducible refine (cmp_Compare_int.calls a0_0 a1_0 t303 _ A3.out).mono ?_
 rintro e w' ⟨rfl, ⟨nd, rfl⟩⟩
 refine ⟨_, rfl, ?_⟩
 refine hK.out _ _ ⟨(kc_' BK301.out 0).trans rfl, (kc_' BK301.out 1).trans rfl, (kc_' BK301.out 2).trans rfl, (kc_' BK301.out 3).trans rfl, (kc_' BK302.out 0).trans rfl, (kc_' BK302.out 1).trans rfl, (kc_' BK302.out 2).trans rfl, (kc_' BK302.out 3).trans rfl⟩ (fun hHeld => ?_)
 clear hK K
 refine norm_ (a' := ?_) ?_ ?_
 rotate_left
 ·
  show Act.put _ (some 9) _ = _
  simp only [Act.put, sa_', sz_', sc_', i64_w, i32_w]
  rfl
 refine one_ (i := 9) (N := some 14) #[true, true, true, true, true, true, true, true, true, true, true, true, true, true, false, false, false, false] rfl rfl (one_of HT_.out (by kernel_rfl)) (by decide) (fun K hK => ?_)
 refine goes_ Try.func131 (by kernel_rfl) rfl #[.int .i64 a0_3, .int .i64 a1_3] (by rfl) rfl rfl (by (try simp only [xm_', xc_', xn_']); first | done | rfl | (simp only [xd_', xt_']; rfl)) ?_
 with_reducible refine (cmp_Compare_int.calls a0_3 a1_3 t304 _ A4.out).mono ?_
 rintro e w' ⟨rfl, ⟨nd, rfl⟩⟩
 refine ⟨_, rfl, ?_⟩
 refine hK.out _ _ ⟨(kc_' BK301.out 0).trans rfl, (kc_' BK301.out 1).trans rfl, (kc_' BK301.out 2).trans rfl, (kc_' BK301.out 3).trans rfl, (kc_' BK302.out 0).trans rfl, (kc_' BK302.out 1).trans rfl, (kc_' BK302.out 2).trans rfl, (kc_' BK302.out 3).trans rfl⟩ (fun hHeld => ?_)
 clear hK K
 refine norm_ (a' := ?_) ?_ ?_
 rotate_left
 ·
  show Act.put _ (some 14) _ = _
  simp only [Act.put, sa_', sz_', sc_', i64_w, i32_w]
  rfl
 refine one_ (i := 14) (N := some 19) #[true, true, true, true, true, true, true, true, true, true, true, true, true, true, true, false, false, false] rfl rfl (one_of HT_.out (by kernel_rfl)) (by decide) (fun K hK => ?_)
 refine goes_ Try.func131 (by kernel_rfl) rfl #[.int .i64 a0_2, .int .i64 a1_2] (by rfl) rfl rfl (by (try simp only [xm_', xc_', xn_']); first | done | rfl | (simp only [xd_', xt_']; rfl)) ?_
 with_reducible refine (cmp_Compare_int.calls a0_2 a1_2 t305 _ A5.out).mono ?_
 rintro e w' ⟨rfl, ⟨nd, rfl⟩⟩
 refine ⟨_, rfl, ?_⟩
 refine hK.out _ _ ⟨(kc_' BK301.out 0).trans rfl, (kc_' BK301.out 1).trans rfl, (kc_' BK301.out 2).trans rfl, (kc_' BK301.out 3).trans rfl, (kc_' BK302.out 0).trans rfl, (kc_' BK302.out 1).trans rfl, (kc_' BK302.out 2).trans rfl, (kc_' BK302.out 3).trans rfl⟩ (fun hHeld => ?_)
 clear hK K
 refine norm_ (a' := ?_) ?_ ?_
 rotate_left
 ·
  show Act.put _ (some 19) _ = _
  simp only [Act.put, sa_', sz_', sc_', i64_w, i32_w]
  rfl
 refine one_ (i := 15) (N := some 20) #[true, true, true, true, true, true, true, true, true, true, true, true, true, true, true, true, false, false] rfl rfl (one_of HT_.out (by kernel_rfl)) (by decide) (fun K hK => ?_)
 refine Kd.R_lit_step (Kd.int .i64) _ 3 ?hg (N := 20) ?hd (xs := ([t303, t304, t305] : List Int)) (inner := [.int .i64 t303, .int .i64 t304, .int .i64 t305]) (ok := fun _ => True) (okp := fun _ => True) ?hr ?hp (fun _ hk => hk) trivial (Below.refl _ _) (Nat.le_refl _) (by simp) ?_; (case hd => rfl); (case hg => rfl); (case hr => first | (go_simp; done) | (go_simp; rfl)); (case hp => exact (Reps.one (show Kd.M (Kd.int .i64) _ _ _ t303 [.int .i64 t303] from rfl) (Reps.one (show Kd.M (Kd.int .i64) _ _ _ t304 [.int .i64 t304] from rfl) (Reps.one (show Kd.M (Kd.int .i64) _ _ _ t305 [.int .i64 t305] from rfl) (Reps.none _ _)))))
 intro v307 w10 ho11 hb hg_ hnew_
 clear hg_ hnew_
 (first | rw [← Ny306.out] at ho11 | (simp only [Int.reduceToNat] at ho11; rw [← Ny306.out] at ho11))
 have n0_ := sk_' (Kd.R_lower ho11 (ps_' (by repeat (first | (with_reducible first | exact HB.out | apply pa_' | apply pn_' | apply pd_' | refine pt_' ?_ GE301.out | refine pt_' ?_ GE302.out) | exact HB.out))))
 have n1_ := sk_' (blk_below (g := gb301) (o := .cells #[.int .i64 a0_0, .int .i64 a0_1, .int .i64 a0_2, .int .i64 a0_3] 26 (0, 0)) (by (with_reducible repeat (first | refine kn_' ?_ _ | refine kd_' ?_ | refine ka_' ?_ _)); exact BK301.out) hb)
 have n2_ := sk_' (blk_below (g := gb302) (o := .cells #[.int .i64 a1_0, .int .i64 a1_1, .int .i64 a1_2, .int .i64 a1_3] 26 (0, 0)) (by (with_reducible repeat (first | refine kn_' ?_ _ | refine kd_' ?_ | refine ka_' ?_ _)); exact BK302.out) hb)
 have n3_ := sk_' (pp_' (by repeat (first | (with_reducible first | exact HB.out | apply pa_' | apply pn_' | apply pd_' | refine pt_' ?_ GE301.out | refine pt_' ?_ GE302.out) | exact HB.out)) hb)
 clear BK301
 clear BK302
 clear HB
 have HO308 := n0_
 have BK301 := n1_
 have BK302 := n2_
 have HB := n3_
 clear n0_ n1_ n2_ n3_
 clear hb ho11
 obtain ⟨Ao12, co12, eo12⟩ := Kd.R_slice HO308.out
 (first | subst eo12 | (injection eo12 with f1_ f2_ f3_; have f4_ := f1_.symm; have f5_ := f3_.symm; clear f1_ f2_ f3_; subst f4_; subst f5_))
 refine hK.out _ _ ⟨(kc_' BK301.out 0).trans rfl, (kc_' BK301.out 1).trans rfl, (kc_' BK301.out 2).trans rfl, (kc_' BK301.out 3).trans rfl, (kc_' BK302.out 0).trans rfl, (kc_' BK302.out 1).trans rfl, (kc_' BK302.out 2).trans rfl, (kc_' BK302.out 3).trans rfl⟩ (fun hHeld => ?_)
 clear hK K
 refine norm_ (a' := ?_) ?_ ?_
 rotate_left
 ·
  show Act.put _ (some 20) _ = _
  simp only [Act.put, sa_', sz_', sc_', i64_w, i32_w]
  rfl
 refine one_ (i := 16) (N := some 21) #[true, true, true, true, true, true, true, true, true, true, true, true, true, true, true, true, true, false] rfl rfl (one_of HT_.out (by kernel_rfl)) (by decide) (fun K hK => ?_)
 refine goes_ Try.func130 (by kernel_rfl) rfl #[.slice Ao12 y306.length co12] (by rfl) rfl rfl (by (try simp only [xm_', xc_', xn_']); first | done | rfl | (simp only [xd_', xt_']; rfl)) ?_
 with_reducible refine (cmp_Or_int.calls k _ _ y306 t309 _ ?side1 ?side2 A6.out).mono ?_
 (case side1 => repeat (first | exact (xr_' HO308.out).2.2 | (with_reducible refine xg_' ?_ _) | (with_reducible refine xe_' ?_ _) | (with_reducible refine xf_' ?_)))
 (case side2 => exact (xr_' HO308.out).2.1)
 rintro e w' ⟨rfl, ⟨nd, rfl⟩⟩
 refine ⟨_, rfl, ?_⟩
 refine hK.out _ _ ⟨(kc_' BK301.out 0).trans rfl, (kc_' BK301.out 1).trans rfl, (kc_' BK301.out 2).trans rfl, (kc_' BK301.out 3).trans rfl, (kc_' BK302.out 0).trans rfl, (kc_' BK302.out 1).trans rfl, (kc_' BK302.out 2).trans rfl, (kc_' BK302.out 3).trans rfl⟩ (fun hHeld => ?_)
 clear hK K
 refine norm_ (a' := ?_) ?_ ?_
 rotate_left
 ·
  show Act.put _ (some 21) _ = _
  simp only [Act.put, sa_', sz_', sc_', i64_w, i32_w]
  rfl
 refine pure_ (i := 17) (N := some 4) (v := ?_) (a' := ?_) #[true, true, true, true, true, true, true, true, true, true, true, true, true, true, true, true, true, true] rfl rfl (any_of HT_.out (by kernel_rfl)) (fun _ _ _ h => h) (Or.inl ⟨by rfl, ?_⟩) ?_ ?_
 rotate_left
 ·
  intro w'
  go_simp
  with_reducible rfl
 rotate_left
 ·
  simp only [Act.put, sa_', sz_', sc_', i64_w, i32_w]
  rfl
 refine done_ (done_of HT_.out (by kernel_rfl)) ?_
 try go_wp2
 go_ret
 exact ⟨by first | rfl | (simp [errW_none, errW_some] <;> rfl) | (simp [*, errW_none, errW_some] <;> rfl), by repeat (first | (with_reducible first | exact HB.out | apply pa_' | apply pn_' | apply pd_' | refine pt_' ?_ GE301.out | refine pt_' ?_ GE302.out) | exact HB.out)⟩
end Go.Proofs.Ytbhlmeghbfmgiaa.F

namespace Go.Proofs.Ytbhlmeghbfmgiaa.F
open Go.RowKit Go.Proofs.YtbhlmeghbfmgiaaW.PrintWords Go.Proofs.YtbhlmeghbfmgiaaW.PrintLast Go.Proofs.YtbhlmeghbfmgiaaW.PrintMore
attribute [local go_sem] max2_int min2_int max_two min_two max_three min_three max_four min_four
set_option linter.unusedVariables false
set_option linter.unusedSimpArgs false
def impl_InRange.f (a0 : Int) (a1 : Int) (a2 : Int) : Option (Bool) := if a1 ≤ a0 then (some (decide (a0 ≤ a2))) else (some false)
set_option maxHeartbeats 8000000 in
set_option maxRecDepth 100000 in
theorem impl_InRange.calls (a0 : Int) (a1 : Int) (a2 : Int) (r : Bool) (w : World) (h : impl_InRange.f a0 a1 a2 = some r) :
  Calls Try.prog 86 #[.int .i64 a0, .int .i64 a1, .int .i64 a2] w fun e w' => e = .returned (.bool r) ∧ Drawn0 w w' := by
 have H : (if a1 ≤ a0 then (some (decide (a0 ≤ a2))) else (some false)) = some r := h
 clear h
 by_cases c4 : a1 ≤ a0
 ·
  rw [if_pos c4] at H
  have c4b0 : decide (a1 ≤ a0) = true := decide_eq_true c4
  clear c4
  obtain rfl := Option.some.inj H
  go_enter Try.func86, Try.ntmps86
  go_wp2
  go_ret
  exact ⟨by first | rfl | (simp; done) | (simp [*]; done), by repeat (first | exact Drawn0.refl _ | apply Drawn0.step)⟩
 rw [if_neg c4] at H
 have c4b0 : decide (a1 ≤ a0) = false := decide_eq_false c4
 clear c4
 obtain rfl := Option.some.inj H
 go_enter Try.func86, Try.ntmps86
 go_wp2
 go_ret
 exact ⟨by first | rfl | (simp; done) | (simp [*]; done), by repeat (first | exact Drawn0.refl _ | apply Drawn0.step)⟩
end Go.Proofs.Ytbhlmeghbfmgiaa.F

namespace Go.Proofs.Ytbhlmeghbfmgiaa.F
open Go.RowKit Go.Proofs.YtbhlmeghbfmgiaaW.PrintWords Go.Proofs.YtbhlmeghbfmgiaaW.PrintLast Go.Proofs.YtbhlmeghbfmgiaaW.PrintMore
attribute [local go_sem] max2_int min2_int max_two min_two max_three min_three max_four min_four
set_option linter.unusedVariables false
set_option linter.unusedSimpArgs false
def impl_IsScore.l0 : Nat → List (S26) → List (S26) → Int → Int → Option (Bool)
 | 0, _, _, _, _ => none
 | k + 1, x0, x5, x6, x7 => if x7 < x6 then (if 0 ≤ x7 then (if x7 < (x5.length : Int) then ((impl_InRange.f ((rd_T26 x5 x7).f0) 0 2000).bind fun t312 => (if t312 = true then ((impl_InRange.f ((rd_T26 x5 x7).f1) 1 96).bind fun t313 => (if t313 = true then ((impl_InRange.f ((rd_T26 x5 x7).f2) 21 108).bind fun t314 => (if t314 = true then ((impl_InRange.f ((rd_T26 x5 x7).f3) 1 4).bind fun t315 => (if t315 = true then (if x7 > 0 then (if 0 ≤ (wrap64 (x7 - 1)) then (if (wrap64 (x7 - 1)) < (x0.length : Int) then ((impl_eventOrder.f k ((rd_T26 x0 (wrap64 (x7 - 1))).f0) ((rd_T26 x0 (wrap64 (x7 - 1))).f1) ((rd_T26 x0 (wrap64 (x7 - 1))).f2) ((rd_T26 x0 (wrap64 (x7 - 1))).f3) ((rd_T26 x5 x7).f0) ((rd_T26 x5 x7).f1) ((rd_T26 x5 x7).f2) ((rd_T26 x5 x7).f3)).bind fun t317 => (if t317 ≥ 0 then (some false) else (impl_IsScore.l0 k x0 x5 x6 (wrap64 (x7 + 1))))) else (none)) else (none)) else (impl_IsScore.l0 k x0 x5 x6 (wrap64 (x7 + 1)))) else (some false))) else (some false))) else (some false))) else (some false))) else (none)) else (none)) else (some (decide ((x0.length : Int) ≤ 40)))
def impl_IsScore.f (k : Nat) (l0 : List (S26)) : Option (Bool) := impl_IsScore.l0 k l0 l0 (l0.length : Int) 0
def impl_IsScore.T4 : Bool × List (List Nat × List Nat) := (true, [([], []), ([0], [0]), ([1], [1]), ([2], [2]), ([3, 2], [3]), ([4], [4]), ([5, 4], [4, 5]), ([6, 4, 4], [4, 6]), ([7, 4], [4, 7]), ([4, 8], [4, 8]), ([9, 7], [9]), ([10], [10]), ([11, 10], [10, 11]), ([12, 10, 10], [10, 12]), ([13, 10], [10, 13]), ([10, 14], [10, 14]), ([15, 13], [15]), ([16], [16]), ([17, 16], [16, 17]), ([18, 16, 16], [16, 18]), ([19, 16], [16, 19]), ([16, 20], [16, 20]), ([21, 19], [21]), ([22], [22]), ([23, 22], [22, 23]), ([24, 22, 22], [22, 24]), ([25], [25]), ([25], [25]), ([27, 25], [25, 27]), ([26, 28, 25], [25, 26, 28]), ([29, 25], [25, 29]), ([25], [25]), ([30, 31, 25, 25], [25, 30, 31]), ([32, 25], [25, 32]), ([25, 33, 22], [22, 25, 33]), ([22, 34], [22, 34])])
def impl_IsScore.B4 : List Nat := [0, 1, 3, 7, 15, 31, 63, 127, 255, 511, 1023, 2047, 4095, 8191, 16383, 32767, 65535, 131071, 262143, 524287, 1048575, 2097151, 4194303, 8388607, 16777215, 33554431, 67108863, 67108863, 201326591, 536870911, 1073741823, 67108863, 4294967295, 8589934591, 17179869183, 34359738367]
theorem impl_IsScore.tab4 : rtab .any (opsOf Try.f14 4) = impl_IsScore.T4 := by kernel_rfl
theorem impl_IsScore.bits4 : waitsOk impl_IsScore.T4.2 impl_IsScore.B4 = true := by kernel_rfl
set_option maxHeartbeats 8000000 in
set_option maxRecDepth 100000 in
theorem impl_IsScore.calls (k : Nat) (A0 : Option Addr) (c0 : Nat) (l0 : List (S26)) (r : Bool) (w : World) (hr0 : Kd.C k26 w A0 l0.length l0) (hc0 : l0.length ≤ c0) (h : impl_IsScore.f k l0 = some r) :
  Calls Try.prog 14 #[.slice A0 l0.length c0] w fun e w' => e = .returned (.bool r) ∧ Below w.heap.size w w' := by
 have HR0 := sk_' hr0
 have HC0 := sk_' hc0
 clear hr0 hc0
 have F := sk_' (Fr.of (Below.refl w.heap.size w))
 have H := h
 clear h
 unfold impl_IsScore.f at H
 have HA := sk_' H
 clear H
 go_enter Try.func14, Try.ntmps14
 go_wp2
 go_loopg [7] k (fun kq vx w' => ∃ (x : Int), vx = .int .i64 x ∧ Aside0 (impl_IsScore.l0 kq l0 l0 (l0.length : Int) x = some r) ∧ Aside0 (Fr w w' []))
 case atStart => exact ⟨0, (by first | rfl | (simp; done) | (simp [*]; done)), HA, F⟩
 case round =>
  clear HA F
  obtain ⟨x, rfl, HA, F⟩ := hrel
  cases gk with
  | zero => exact absurd HA.out (by simp [impl_IsScore.l0])
  | succ k2 =>
   have H := HA.out
   clear HA
   simp only [impl_IsScore.l0] at H
   by_cases c1 : x < (l0.length : Int)
   ·
    rw [if_pos c1] at H
    by_cases c2 : 0 ≤ x
    ·
     rw [if_pos c2, if_pos c1] at H
     obtain ⟨ad, e, hx0, hx1, hx2, hx3⟩ := at_T26 HR0.out x c2 c1
     cases e
     replace hx0 := (F.out.below.cell (bq_' w _ hx0)).trans hx0
     generalize (rd_T26 l0 x).f0 = p0 at H hx0
     replace hx1 := (F.out.below.cell (bq_' w _ hx1)).trans hx1
     generalize (rd_T26 l0 x).f1 = p1 at H hx1
     replace hx2 := (F.out.below.cell (bq_' w _ hx2)).trans hx2
     generalize (rd_T26 l0 x).f2 = p2 at H hx2
     replace hx3 := (F.out.below.cell (bq_' w _ hx3)).trans hx3
     generalize (rd_T26 l0 x).f3 = p3 at H hx3
     have cb1 : decide (x < (l0.length : Int)) = true := decide_eq_true c1
     have c1t := eq_true c1
     have c2t := eq_true c2
     have HA := sk_' H
     clear H
     go_upto_region 4 with (first
      | ((with_reducible refine gate_dst (N := 4) rfl ?_); refine box_event ?hg (N := 4) ?hd (cs := #[.int .i64 0, .int .i64 0, .int .i64 0, .int .i64 0]) (t := 26) ?hr ?_; (case hd => rfl); (case hg => rfl); (case hr => first | (go_simp; done) | (go_simp; rfl)); intro gt hg w3 hbox hb; have F1 := sk_' (F.out.push hg hbox hb); clear F hbox hb hg; have F := F1; clear F1; obtain ⟨gtc0, gtc1, gtc2, gtc3, gtf0, gtf1, gtf2, gtf3⟩ := F.out.c4 (i := 0) rfl; clear hx0 hx1 hx2 hx3)
      | ((with_reducible refine gate_store (t := 26) (p := 4) rfl ?_); refine store_event (t := 26) (p := 4) (v := ?vo_w4) (w1 := put4 w3 gt (.int .i64 p0) (.int .i64 p1) (.int .i64 p2) (.int .i64 p3)) ?hg ?ho ?hn ?hr ?_; (case ho => rfl); (case hg => rfl); (case hn => rfl); (case hr => unfold put4; first | (go_simp; done) | (go_simp; rfl)); intro w4 hw; have F1 := sk_' (F.out.put4 (i := 0) rfl (.int .i64 p0) (.int .i64 p1) (.int .i64 p2) (.int .i64 p3)); rw [← hw] at F1; clear gtc0 gtc1 gtc2 gtc3 gtf0 gtf1 gtf2 gtf3; clear F hw; have F := F1; clear F1))
     have H := HA.out
     clear HA c1t
     replace H := bs_' H
     obtain ⟨t0, B_, H⟩ := H
     have A2 := sk_' B_
     clear B_
     cases t0 with
     | false =>
      simp only [Bool.false_eq_true, if_false] at H
      obtain ⟨gtc0, gtc1, gtc2, gtc3, gtf0, gtf1, gtf2, gtf3⟩ := F.out.c4 (i := 0) rfl
      go_quiet ((first | (go_at_call 86; apply Calls.quiet_of; ((with_reducible refine (impl_InRange.calls p0 0 2000 false _ A2.out).mono ?_); exact fun _ _ h_ => ⟨h_.1, h_.2.out⟩))))
      have F1 := sk_' (F.out.step (pn_' (Below.refl _ w4) nq))
      clear gtc0 gtc1 gtc2 gtc3 gtf0 gtf1 gtf2 gtf3
      clear F
      generalize w4.drewN nq = w5 at F1 ⊢
      have F := F1
      clear F1
      obtain rfl := Option.some.inj H
      go_wp2
      go_ret
      exact ⟨rfl, F.out.below⟩
     | true =>
      simp only [if_true] at H
      replace H := bs_' H
      obtain ⟨t1, B_, H⟩ := H
      have A3 := sk_' B_
      clear B_
      cases t1 with
      | false =>
       simp only [Bool.false_eq_true, if_false] at H
       obtain ⟨gtc0, gtc1, gtc2, gtc3, gtf0, gtf1, gtf2, gtf3⟩ := F.out.c4 (i := 0) rfl
       go_quiet ((first | (go_at_call 86; apply Calls.quiet_of; ((with_reducible refine (impl_InRange.calls p0 0 2000 true _ A2.out).mono ?_); exact fun _ _ h_ => ⟨h_.1, h_.2.out⟩)) | (go_at_call 86; apply Calls.quiet_of; ((with_reducible refine (impl_InRange.calls p1 1 96 false _ A3.out).mono ?_); exact fun _ _ h_ => ⟨h_.1, h_.2.out⟩))))
       have F1 := sk_' (F.out.step (pn_' (Below.refl _ w4) nq))
       clear gtc0 gtc1 gtc2 gtc3 gtf0 gtf1 gtf2 gtf3
       clear F
       generalize w4.drewN nq = w5 at F1 ⊢
       have F := F1
       clear F1
       obtain rfl := Option.some.inj H
       go_wp2
       go_ret
       exact ⟨rfl, F.out.below⟩
      | true =>
       simp only [if_true] at H
       replace H := bs_' H
       obtain ⟨t2, B_, H⟩ := H
       have A4 := sk_' B_
       clear B_
       cases t2 with
       | false =>
        simp only [Bool.false_eq_true, if_false] at H
        obtain ⟨gtc0, gtc1, gtc2, gtc3, gtf0, gtf1, gtf2, gtf3⟩ := F.out.c4 (i := 0) rfl
        go_quiet ((first | (go_at_call 86; apply Calls.quiet_of; ((with_reducible refine (impl_InRange.calls p0 0 2000 true _ A2.out).mono ?_); exact fun _ _ h_ => ⟨h_.1, h_.2.out⟩)) | (go_at_call 86; apply Calls.quiet_of; ((with_reducible refine (impl_InRange.calls p1 1 96 true _ A3.out).mono ?_); exact fun _ _ h_ => ⟨h_.1, h_.2.out⟩)) | (go_at_call 86; apply Calls.quiet_of; ((with_reducible refine (impl_InRange.calls p2 21 108 false _ A4.out).mono ?_); exact fun _ _ h_ => ⟨h_.1, h_.2.out⟩))))
        have F1 := sk_' (F.out.step (pn_' (Below.refl _ w4) nq))
        clear gtc0 gtc1 gtc2 gtc3 gtf0 gtf1 gtf2 gtf3
        clear F
        generalize w4.drewN nq = w5 at F1 ⊢
        have F := F1
        clear F1
        obtain rfl := Option.some.inj H
        go_wp2
        go_ret
        exact ⟨rfl, F.out.below⟩
       | true =>
        simp only [if_true] at H
        replace H := bs_' H
        obtain ⟨t3, B_, H⟩ := H
        have A5 := sk_' B_
        clear B_
        cases t3 with
        | false =>
         simp only [Bool.false_eq_true, if_false] at H
         obtain ⟨gtc0, gtc1, gtc2, gtc3, gtf0, gtf1, gtf2, gtf3⟩ := F.out.c4 (i := 0) rfl
         go_quiet ((first | (go_at_call 86; apply Calls.quiet_of; ((with_reducible refine (impl_InRange.calls p0 0 2000 true _ A2.out).mono ?_); exact fun _ _ h_ => ⟨h_.1, h_.2.out⟩)) | (go_at_call 86; apply Calls.quiet_of; ((with_reducible refine (impl_InRange.calls p1 1 96 true _ A3.out).mono ?_); exact fun _ _ h_ => ⟨h_.1, h_.2.out⟩)) | (go_at_call 86; apply Calls.quiet_of; ((with_reducible refine (impl_InRange.calls p2 21 108 true _ A4.out).mono ?_); exact fun _ _ h_ => ⟨h_.1, h_.2.out⟩)) | (go_at_call 86; apply Calls.quiet_of; ((with_reducible refine (impl_InRange.calls p3 1 4 false _ A5.out).mono ?_); exact fun _ _ h_ => ⟨h_.1, h_.2.out⟩))))
         have F1 := sk_' (F.out.step (pn_' (Below.refl _ w4) nq))
         clear gtc0 gtc1 gtc2 gtc3 gtf0 gtf1 gtf2 gtf3
         clear F
         generalize w4.drewN nq = w5 at F1 ⊢
         have F := F1
         clear F1
         obtain rfl := Option.some.inj H
         go_wp2
         go_ret
         exact ⟨rfl, F.out.below⟩
        | true =>
         simp only [if_true] at H
         by_cases d3 : x > 0
         ·
          rw [if_pos d3] at H
          have d3b : decide (0 < x) = true := decide_eq_true d3
          clear d3
          obtain ⟨ji, hji⟩ : ∃ j_ : Int, wrap64 (x - 1) = j_ := ⟨_, rfl⟩
          have hjw : IntKind.i64.wrap (x - 1) = ji := (i64_w _).trans hji
          rw [hji] at H
          by_cases e1 : 0 ≤ ji
          ·
           rw [if_pos e1] at H
           by_cases e2 : ji < (l0.length : Int)
           ·
            rw [if_pos e2] at H
            obtain ⟨ad2, e, hy0, hy1, hy2, hy3⟩ := at_T26 HR0.out ji e1 e2
            obtain rfl : ad = ad2 := by injection e
            clear e hji
            have Y0 := sk_' hy0
            clear hy0
            generalize (rd_T26 l0 ji).f0 = q0 at H Y0
            have Y1 := sk_' hy1
            clear hy1
            generalize (rd_T26 l0 ji).f1 = q1 at H Y1
            have Y2 := sk_' hy2
            clear hy2
            generalize (rd_T26 l0 ji).f2 = q2 at H Y2
            have Y3 := sk_' hy3
            clear hy3
            generalize (rd_T26 l0 ji).f3 = q3 at H Y3
            replace e1 := eq_true e1
            replace e2 := eq_true e2
            replace H := bs_' H
            obtain ⟨t6, B_, H⟩ := H
            have A6 := sk_' B_
            clear B_
            by_cases d4 : t6 ≥ 0
            ·
             rw [if_pos d4] at H
             have d4b : decide (0 ≤ t6) = true := decide_eq_true d4
             clear d4
             refine BelowW.region (by kernel_rfl) (by kernel_rfl) ?_
             have F1 := sk_' F.out.drew
             clear F
             have F := F1
             clear F1
             obtain ⟨gtc0, gtc1, gtc2, gtc3, _, _, _, _⟩ := F.out.c4 (i := 0) rfl
             have hy0 := (F.out.below.cell (bq_' w _ Y0.out)).trans Y0.out
             have hy1 := (F.out.below.cell (bq_' w _ Y1.out)).trans Y1.out
             have hy2 := (F.out.below.cell (bq_' w _ Y2.out)).trans Y2.out
             have hy3 := (F.out.below.cell (bq_' w _ Y3.out)).trans Y3.out
             generalize w4.drew = w5 at F gtc0 gtc1 gtc2 gtc3 hy0 hy1 hy2 hy3 ⊢
             replace gtc0 := BelowW.at gtc0
             replace gtc1 := BelowW.at gtc1
             replace gtc2 := BelowW.at gtc2
             replace gtc3 := BelowW.at gtc3
             replace hy0 := BelowW.at hy0
             replace hy1 := BelowW.at hy1
             replace hy2 := BelowW.at hy2
             replace hy3 := BelowW.at hy3
             change wpQuiet _ _ _ _ (List.cons _ _) _
             repeat (go_big_quiet_step (first | (go_at_call 86; (with_reducible refine (impl_InRange.calls p0 0 2000 true _ A2.out).mono ?_); exact fun _ _ h_ => ⟨h_.1, BelowW.drawn _ h_.2⟩) | (go_at_call 86; (with_reducible refine (impl_InRange.calls p1 1 96 true _ A3.out).mono ?_); exact fun _ _ h_ => ⟨h_.1, BelowW.drawn _ h_.2⟩) | (go_at_call 86; (with_reducible refine (impl_InRange.calls p2 21 108 true _ A4.out).mono ?_); exact fun _ _ h_ => ⟨h_.1, BelowW.drawn _ h_.2⟩) | (go_at_call 86; (with_reducible refine (impl_InRange.calls p3 1 4 true _ A5.out).mono ?_); exact fun _ _ h_ => ⟨h_.1, BelowW.drawn _ h_.2⟩) | (go_at_call 81; (with_reducible refine (impl_eventOrder.calls k2 q0 q1 q2 q3 p0 p1 p2 p3 t6 _ A6.out).mono ?_); exact fun _ _ h_ => ⟨h_.1, BelowW.step _ h_.2⟩)))
             refine wpQuiet_nil ?_
             intro w6 hb
             try simp only [i64_w, i32_w]
             clear gtc0 gtc1 gtc2 gtc3 hy0 hy1 hy2 hy3
             have F1 := sk_' (F.out.step hb)
             clear F hb
             have F := F1
             clear F1
             obtain rfl := Option.some.inj H
             go_wp2
             go_ret
             exact ⟨rfl, F.out.below⟩
            rw [if_neg d4] at H
            have d4b : decide (0 ≤ t6) = false := decide_eq_false d4
            clear d4
            refine BelowW.region (by kernel_rfl) (by kernel_rfl) ?_
            have F1 := sk_' F.out.drew
            clear F
            have F := F1
            clear F1
            obtain ⟨gtc0, gtc1, gtc2, gtc3, _, _, _, _⟩ := F.out.c4 (i := 0) rfl
            have hy0 := (F.out.below.cell (bq_' w _ Y0.out)).trans Y0.out
            have hy1 := (F.out.below.cell (bq_' w _ Y1.out)).trans Y1.out
            have hy2 := (F.out.below.cell (bq_' w _ Y2.out)).trans Y2.out
            have hy3 := (F.out.below.cell (bq_' w _ Y3.out)).trans Y3.out
            generalize w4.drew = w5 at F gtc0 gtc1 gtc2 gtc3 hy0 hy1 hy2 hy3 ⊢
            replace gtc0 := BelowW.at gtc0
            replace gtc1 := BelowW.at gtc1
            replace gtc2 := BelowW.at gtc2
            replace gtc3 := BelowW.at gtc3
            replace hy0 := BelowW.at hy0
            replace hy1 := BelowW.at hy1
            replace hy2 := BelowW.at hy2
            replace hy3 := BelowW.at hy3
            change wpQuiet _ _ _ _ (List.cons _ _) _
            repeat (go_big_quiet_step (first | (go_at_call 86; (with_reducible refine (impl_InRange.calls p0 0 2000 true _ A2.out).mono ?_); exact fun _ _ h_ => ⟨h_.1, BelowW.drawn _ h_.2⟩) | (go_at_call 86; (with_reducible refine (impl_InRange.calls p1 1 96 true _ A3.out).mono ?_); exact fun _ _ h_ => ⟨h_.1, BelowW.drawn _ h_.2⟩) | (go_at_call 86; (with_reducible refine (impl_InRange.calls p2 21 108 true _ A4.out).mono ?_); exact fun _ _ h_ => ⟨h_.1, BelowW.drawn _ h_.2⟩) | (go_at_call 86; (with_reducible refine (impl_InRange.calls p3 1 4 true _ A5.out).mono ?_); exact fun _ _ h_ => ⟨h_.1, BelowW.drawn _ h_.2⟩) | (go_at_call 81; (with_reducible refine (impl_eventOrder.calls k2 q0 q1 q2 q3 p0 p1 p2 p3 t6 _ A6.out).mono ?_); exact fun _ _ h_ => ⟨h_.1, BelowW.step _ h_.2⟩)))
            refine wpQuiet_nil ?_
            intro w6 hb
            try simp only [i64_w, i32_w]
            clear gtc0 gtc1 gtc2 gtc3 hy0 hy1 hy2 hy3
            have F1 := sk_' (F.out.step hb)
            clear F hb
            have F := F1
            clear F1
            have HA := sk_' H
            clear H
            go_wp2
            go_roundg k2
            case measure => omega
            case rel => exact ⟨wrap64 (x + 1), (by first | rfl | (simp; done) | (simp [*]; done)), HA, ⟨F.out.take 0⟩⟩
           rw [if_neg e2] at H
           exact absurd H (by simp)
          rw [if_neg e1] at H
          exact absurd H (by simp)
         rw [if_neg d3] at H
         have d3b : decide (0 < x) = false := decide_eq_false d3
         clear d3
         obtain ⟨gtc0, gtc1, gtc2, gtc3, gtf0, gtf1, gtf2, gtf3⟩ := F.out.c4 (i := 0) rfl
         go_quiet ((first | (go_at_call 86; apply Calls.quiet_of; ((with_reducible refine (impl_InRange.calls p0 0 2000 true _ A2.out).mono ?_); exact fun _ _ h_ => ⟨h_.1, h_.2.out⟩)) | (go_at_call 86; apply Calls.quiet_of; ((with_reducible refine (impl_InRange.calls p1 1 96 true _ A3.out).mono ?_); exact fun _ _ h_ => ⟨h_.1, h_.2.out⟩)) | (go_at_call 86; apply Calls.quiet_of; ((with_reducible refine (impl_InRange.calls p2 21 108 true _ A4.out).mono ?_); exact fun _ _ h_ => ⟨h_.1, h_.2.out⟩)) | (go_at_call 86; apply Calls.quiet_of; ((with_reducible refine (impl_InRange.calls p3 1 4 true _ A5.out).mono ?_); exact fun _ _ h_ => ⟨h_.1, h_.2.out⟩))))
         have F1 := sk_' (F.out.step (pn_' (Below.refl _ w4) nq))
         clear gtc0 gtc1 gtc2 gtc3 gtf0 gtf1 gtf2 gtf3
         clear F
         generalize w4.drewN nq = w5 at F1 ⊢
         have F := F1
         clear F1
         have HA := sk_' H
         clear H
         go_wp2
         go_roundg k2
         case measure => omega
         case rel => exact ⟨wrap64 (x + 1), (by first | rfl | (simp; done) | (simp [*]; done)), HA, ⟨F.out.take 0⟩⟩
    rw [if_neg c2] at H
    exact absurd H (by simp)
   rw [if_neg c1] at H
   have cb1 : decide (x < (l0.length : Int)) = false := decide_eq_false c1
   clear c1
   obtain rfl := Option.some.inj H
   go_wp2
   go_ret
   exact ⟨by first | rfl | (simp; done) | (simp [*]; done), F.out.below⟩
end Go.Proofs.Ytbhlmeghbfmgiaa.F

namespace Go.Proofs.Ytbhlmeghbfmgiaa.F
open Go.RowKit Go.Proofs.YtbhlmeghbfmgiaaW.PrintWords Go.Proofs.YtbhlmeghbfmgiaaW.PrintLast Go.Proofs.YtbhlmeghbfmgiaaW.PrintMore
attribute [local go_sem] max2_int min2_int max_two min_two max_three min_three max_four min_four
set_option linter.unusedVariables false
set_option linter.unusedSimpArgs false
def impl_IsTempo.l0 : Nat → List (S151) → List (S151) → Int → Int → Option (Bool)
 | 0, _, _, _, _ => none
 | k + 1, x0, x5, x6, x7 => if x7 < x6 then (if 0 ≤ x7 then (if x7 < (x5.length : Int) then (if x7 = 0 then (if ((rd_T151 x5 x7).f0) = 0 then (if x7 > 0 then (if 0 ≤ (wrap64 (x7 - 1)) then (if (wrap64 (x7 - 1)) < (x0.length : Int) then (if ((rd_T151 x0 (wrap64 (x7 - 1))).f0) ≥ ((rd_T151 x5 x7).f0) then (some false) else (if ((rd_T151 x5 x7).f0) > 2000 then (some false) else ((impl_InRange.f ((rd_T151 x5 x7).f1) 20 300).bind fun t610 => (if t610 = true then (impl_IsTempo.l0 k x0 x5 x6 (wrap64 (x7 + 1))) else (some false))))) else (none)) else (none)) else (if ((rd_T151 x5 x7).f0) > 2000 then (some false) else ((impl_InRange.f ((rd_T151 x5 x7).f1) 20 300).bind fun t611 => (if t611 = true then (impl_IsTempo.l0 k x0 x5 x6 (wrap64 (x7 + 1))) else (some false))))) else (some false)) else (if x7 > 0 then (if 0 ≤ (wrap64 (x7 - 1)) then (if (wrap64 (x7 - 1)) < (x0.length : Int) then (if ((rd_T151 x0 (wrap64 (x7 - 1))).f0) ≥ ((rd_T151 x5 x7).f0) then (some false) else (if ((rd_T151 x5 x7).f0) > 2000 then (some false) else ((impl_InRange.f ((rd_T151 x5 x7).f1) 20 300).bind fun t613 => (if t613 = true then (impl_IsTempo.l0 k x0 x5 x6 (wrap64 (x7 + 1))) else (some false))))) else (none)) else (none)) else (if ((rd_T151 x5 x7).f0) > 2000 then (some false) else ((impl_InRange.f ((rd_T151 x5 x7).f1) 20 300).bind fun t614 => (if t614 = true then (impl_IsTempo.l0 k x0 x5 x6 (wrap64 (x7 + 1))) else (some false)))))) else (none)) else (none)) else ((impl_InRange.f (x0.length : Int) 1 8).bind fun t615 => (some t615))
def impl_IsTempo.f (k : Nat) (l0 : List (S151)) : Option (Bool) := impl_IsTempo.l0 k l0 l0 (l0.length : Int) 0
def impl_IsTempo.T4 : Bool × List (List Nat × List Nat) := (true, [([], []), ([0], [0]), ([1], [1]), ([2], [2]), ([3, 2], [2, 3]), ([4, 2], [2, 4]), ([2, 5], [2, 5]), ([6, 2], [6]), ([7], [7]), ([8, 7], [7, 8]), ([9, 7, 7], [7, 9]), ([10], [10]), ([10], [10]), ([12, 10], [10, 12]), ([11, 13, 10], [10, 11, 13]), ([14, 10], [10, 14]), ([15, 10], [10, 15]), ([10], [10]), ([17, 10], [10, 17]), ([16, 18, 10], [10, 16, 18]), ([10, 19, 7], [7, 10, 19]), ([7, 20], [7, 20]), ([21, 10], [21]), ([22], [22]), ([23, 22], [22, 23]), ([24, 22], [22, 24]), ([22, 25], [22, 25]), ([26, 22], [26]), ([27], [27]), ([28, 27], [27, 28]), ([29, 27, 27], [27, 29]), ([30, 27], [27, 30]), ([27, 31], [27, 31])])
def impl_IsTempo.B4 : List Nat := [0, 1, 3, 7, 15, 31, 63, 127, 255, 511, 1023, 2047, 2047, 6143, 16383, 32767, 65535, 2047, 133119, 524287, 1048575, 2097151, 4194303, 8388607, 16777215, 33554431, 67108863, 134217727, 268435455, 536870911, 1073741823, 2147483647, 4294967295]
theorem impl_IsTempo.tab4 : rtab .any (opsOf Try.f65 4) = impl_IsTempo.T4 := by kernel_rfl
theorem impl_IsTempo.bits4 : waitsOk impl_IsTempo.T4.2 impl_IsTempo.B4 = true := by kernel_rfl
set_option maxHeartbeats 8000000 in
set_option maxRecDepth 100000 in
theorem impl_IsTempo.calls (k : Nat) (A0 : Option Addr) (c0 : Nat) (l0 : List (S151)) (r : Bool) (w : World) (hr0 : Kd.C k151 w A0 l0.length l0) (hc0 : l0.length ≤ c0) (h : impl_IsTempo.f k l0 = some r) :
  Calls Try.prog 65 #[.slice A0 l0.length c0] w fun e w' => e = .returned (.bool r) ∧ Below w.heap.size w w' := by
 have HR0 := sk_' hr0
 have HC0 := sk_' hc0
 clear hr0 hc0
 have F := sk_' (Fr.of (Below.refl w.heap.size w))
 have H := h
 clear h
 unfold impl_IsTempo.f at H
 have HA := sk_' H
 clear H
 go_enter Try.func65, Try.ntmps65
 go_wp2
 go_loopg [7] k (fun kq vx w' => ∃ (x : Int), vx = .int .i64 x ∧ Aside0 (impl_IsTempo.l0 kq l0 l0 (l0.length : Int) x = some r) ∧ Aside0 (Fr w w' []))
 case atStart => exact ⟨0, (by first | rfl | (simp; done) | (simp [*]; done)), HA, F⟩
 case round =>
  clear HA F
  obtain ⟨x, rfl, HA, F⟩ := hrel
  cases gk with
  | zero => exact absurd HA.out (by simp [impl_IsTempo.l0])
  | succ k2 =>
   have H := HA.out
   clear HA
   simp only [impl_IsTempo.l0] at H
   by_cases c1 : x < (l0.length : Int)
   ·
    rw [if_pos c1] at H
    by_cases c2 : 0 ≤ x
    ·
     rw [if_pos c2, if_pos c1] at H
     obtain ⟨ad, e, hx0, hx1⟩ := at_T151 HR0.out x c2 c1
     cases e
     replace hx0 := (F.out.below.cell (bq_' w _ hx0)).trans hx0
     replace hx1 := (F.out.below.cell (bq_' w _ hx1)).trans hx1
     generalize (rd_T151 l0 x).f0 = p at H hx0
     generalize (rd_T151 l0 x).f1 = q at H hx1
     have cb1 : decide (x < (l0.length : Int)) = true := decide_eq_true c1
     have c1t := eq_true c1
     have c2t := eq_true c2
     have HA := sk_' H
     clear H
     go_upto_region 4 with (first
      | ((with_reducible refine gate_dst (N := 4) rfl ?_); refine box_event ?hg (N := 4) ?hd (cs := #[.int .i64 0, .int .i64 0]) (t := 151) ?hr ?_; (case hd => rfl); (case hg => rfl); (case hr => first | (go_simp; done) | (go_simp; rfl)); intro gt hg w3 hbox hb; have F1 := sk_' (F.out.push hg hbox hb); clear F hbox hb hg; have F := F1; clear F1; obtain ⟨gtc0, gtc1, gtf0, gtf1⟩ := F.out.c2 (i := 0) rfl; clear hx0 hx1)
      | ((with_reducible refine gate_store (t := 151) (p := 4) rfl ?_); refine store_event (t := 151) (p := 4) (v := ?vo_w4) (w1 := put2 w3 gt (.int .i64 p) (.int .i64 q)) ?hg ?ho ?hn ?hr ?_; (case ho => rfl); (case hg => rfl); (case hn => rfl); (case hr => unfold put2; first | (go_simp; done) | (go_simp; rfl)); intro w4 hw; have F1 := sk_' (F.out.put2 (i := 0) rfl (.int .i64 p) (.int .i64 q)); rw [← hw] at F1; clear gtc0 gtc1 gtf0 gtf1; clear F hw; have F := F1; clear F1))
     have H := HA.out
     clear HA c1t
     by_cases d1 : x = 0
     ·
      rw [if_pos d1] at H
      have d1a : (x == 0) = true := beq_iff_eq.mpr d1
      have d1b : (x != 0) = false := bne_eq_false_iff_eq.mpr d1
      have d3b : decide (0 < x) = false := decide_eq_false (by omega)
      by_cases d2 : p = 0
      ·
       rw [if_pos d2, if_neg (show ¬ x > 0 by omega), if_neg (show ¬ p > 2000 by omega)] at H
       have d2a : (p == 0) = true := beq_iff_eq.mpr d2
       have d2b : (p != 0) = false := bne_eq_false_iff_eq.mpr d2
       have d4b : decide (2000 < p) = false := decide_eq_false (by omega)
       clear d1 d2
       replace H := bs_' H
       obtain ⟨t2, B_, H⟩ := H
       have A2 := sk_' B_
       clear B_
       cases t2 with
       | false =>
        simp only [Bool.false_eq_true, if_false] at H
        obtain ⟨gtc0, gtc1, gtf0, gtf1⟩ := F.out.c2 (i := 0) rfl
        go_quiet ((first | (go_at_call 86; apply Calls.quiet_of; ((with_reducible refine (impl_InRange.calls q 20 300 false _ A2.out).mono ?_); exact fun _ _ h_ => ⟨h_.1, h_.2.out⟩))))
        have F1 := sk_' (F.out.step (pn_' (Below.refl _ w4) nq))
        clear gtc0 gtc1 gtf0 gtf1
        clear F
        generalize w4.drewN nq = w5 at F1 ⊢
        have F := F1
        clear F1
        obtain rfl := Option.some.inj H
        go_wp2
        go_ret
        exact ⟨rfl, F.out.below⟩
       | true =>
        simp only [if_true] at H
        obtain ⟨gtc0, gtc1, gtf0, gtf1⟩ := F.out.c2 (i := 0) rfl
        go_quiet ((first | (go_at_call 86; apply Calls.quiet_of; ((with_reducible refine (impl_InRange.calls q 20 300 true _ A2.out).mono ?_); exact fun _ _ h_ => ⟨h_.1, h_.2.out⟩))))
        have F1 := sk_' (F.out.step (pn_' (Below.refl _ w4) nq))
        clear gtc0 gtc1 gtf0 gtf1
        clear F
        generalize w4.drewN nq = w5 at F1 ⊢
        have F := F1
        clear F1
        have HA := sk_' H
        clear H
        go_wp2
        go_roundg k2
        case measure => omega
        case rel => exact ⟨wrap64 (x + 1), (by first | rfl | (simp; done) | (simp [*]; done)), HA, ⟨F.out.take 0⟩⟩
      rw [if_neg d2] at H
      have d2a : (p == 0) = false := beq_eq_false_iff_ne.mpr d2
      have d2b : (p != 0) = true := bne_iff_ne.mpr d2
      clear d1 d2
      obtain ⟨gtc0, gtc1, gtf0, gtf1⟩ := F.out.c2 (i := 0) rfl
      go_quiet (fail)
      have F1 := sk_' (F.out.step (pn_' (Below.refl _ w4) nq))
      clear gtc0 gtc1 gtf0 gtf1
      clear F
      generalize w4.drewN nq = w5 at F1 ⊢
      have F := F1
      clear F1
      obtain rfl := Option.some.inj H
      go_wp2
      go_ret
      exact ⟨rfl, F.out.below⟩
     rw [if_neg d1, if_pos (show x > 0 by omega)] at H
     have d1a : (x == 0) = false := beq_eq_false_iff_ne.mpr d1
     have d1b : (x != 0) = true := bne_iff_ne.mpr d1
     have d3b : decide (0 < x) = true := decide_eq_true (by omega)
     clear d1
     obtain ⟨ji, hji⟩ : ∃ j_ : Int, wrap64 (x - 1) = j_ := ⟨_, rfl⟩
     have hjw : IntKind.i64.wrap (x - 1) = ji := (i64_w _).trans hji
     rw [hji] at H
     by_cases e1 : 0 ≤ ji
     ·
      rw [if_pos e1] at H
      by_cases e2 : ji < (l0.length : Int)
      ·
       rw [if_pos e2] at H
       obtain ⟨ad2, e, hy0, hy1⟩ := at_T151 HR0.out ji e1 e2
       obtain rfl : ad = ad2 := by injection e
       clear hy1 e hji
       have Y0 := sk_' hy0
       clear hy0
       generalize (rd_T151 l0 ji).f0 = p2 at H Y0
       replace e1 := eq_true e1
       replace e2 := eq_true e2
       by_cases d5 : p2 ≥ p
       ·
        rw [if_pos d5] at H
        have d5b : decide (p ≤ p2) = true := decide_eq_true d5
        clear d5
        have hy0 := (F.out.below.cell (bq_' w _ Y0.out)).trans Y0.out
        obtain ⟨gtc0, gtc1, gtf0, gtf1⟩ := F.out.c2 (i := 0) rfl
        go_quiet (fail)
        have F1 := sk_' (F.out.step (pn_' (Below.refl _ w4) nq))
        clear hy0
        clear gtc0 gtc1 gtf0 gtf1
        clear F
        generalize w4.drewN nq = w5 at F1 ⊢
        have F := F1
        clear F1
        obtain rfl := Option.some.inj H
        go_wp2
        go_ret
        exact ⟨rfl, F.out.below⟩
       rw [if_neg d5] at H
       have d5b : decide (p ≤ p2) = false := decide_eq_false d5
       clear d5
       by_cases d4 : p > 2000
       ·
        rw [if_pos d4] at H
        have d4b : decide (2000 < p) = true := decide_eq_true d4
        clear d4
        have hy0 := (F.out.below.cell (bq_' w _ Y0.out)).trans Y0.out
        obtain ⟨gtc0, gtc1, gtf0, gtf1⟩ := F.out.c2 (i := 0) rfl
        go_quiet (fail)
        have F1 := sk_' (F.out.step (pn_' (Below.refl _ w4) nq))
        clear hy0
        clear gtc0 gtc1 gtf0 gtf1
        clear F
        generalize w4.drewN nq = w5 at F1 ⊢
        have F := F1
        clear F1
        obtain rfl := Option.some.inj H
        go_wp2
        go_ret
        exact ⟨rfl, F.out.below⟩
       rw [if_neg d4] at H
       have d4b : decide (2000 < p) = false := decide_eq_false d4
       clear d4
       replace H := bs_' H
       obtain ⟨t2, B_, H⟩ := H
       have A2 := sk_' B_
       clear B_
       cases t2 with
       | false =>
        simp only [Bool.false_eq_true, if_false] at H
        have hy0 := (F.out.below.cell (bq_' w _ Y0.out)).trans Y0.out
        obtain ⟨gtc0, gtc1, gtf0, gtf1⟩ := F.out.c2 (i := 0) rfl
        go_quiet ((first | (go_at_call 86; apply Calls.quiet_of; ((with_reducible refine (impl_InRange.calls q 20 300 false _ A2.out).mono ?_); exact fun _ _ h_ => ⟨h_.1, h_.2.out⟩))))
        have F1 := sk_' (F.out.step (pn_' (Below.refl _ w4) nq))
        clear hy0
        clear gtc0 gtc1 gtf0 gtf1
        clear F
        generalize w4.drewN nq = w5 at F1 ⊢
        have F := F1
        clear F1
        obtain rfl := Option.some.inj H
        go_wp2
        go_ret
        exact ⟨rfl, F.out.below⟩
       | true =>
        simp only [if_true] at H
        have hy0 := (F.out.below.cell (bq_' w _ Y0.out)).trans Y0.out
        obtain ⟨gtc0, gtc1, gtf0, gtf1⟩ := F.out.c2 (i := 0) rfl
        go_quiet ((first | (go_at_call 86; apply Calls.quiet_of; ((with_reducible refine (impl_InRange.calls q 20 300 true _ A2.out).mono ?_); exact fun _ _ h_ => ⟨h_.1, h_.2.out⟩))))
        have F1 := sk_' (F.out.step (pn_' (Below.refl _ w4) nq))
        clear hy0
        clear gtc0 gtc1 gtf0 gtf1
        clear F
        generalize w4.drewN nq = w5 at F1 ⊢
        have F := F1
        clear F1
        have HA := sk_' H
        clear H
        go_wp2
        go_roundg k2
        case measure => omega
        case rel => exact ⟨wrap64 (x + 1), (by first | rfl | (simp; done) | (simp [*]; done)), HA, ⟨F.out.take 0⟩⟩
      rw [if_neg e2] at H
      exact absurd H (by simp)
     rw [if_neg e1] at H
     exact absurd H (by simp)
    rw [if_neg c2] at H
    exact absurd H (by simp)
   rw [if_neg c1] at H
   have cb1 : decide (x < (l0.length : Int)) = false := decide_eq_false c1
   clear c1
   replace H := bs_' H
   obtain ⟨t2, B_, H⟩ := H
   have A2 := sk_' B_
   clear B_
   obtain rfl := Option.some.inj H
   go_wp2_with (first
    | (go_at_call 86; (with_reducible refine (impl_InRange.calls (l0.length : Int) 1 8 t2 _ A2.out).mono ?_); rintro e w6 ⟨rfl, hb⟩; have F1 := sk_' (F.out.drawn hb); clear F hb; have F := F1; clear F1))
   go_ret
   exact ⟨rfl, F.out.below⟩
end Go.Proofs.Ytbhlmeghbfmgiaa.F

namespace Go.Proofs.Ytbhlmeghbfmgiaa.F
open Go.RowKit Go.Proofs.YtbhlmeghbfmgiaaW.PrintWords Go.Proofs.YtbhlmeghbfmgiaaW.PrintLast Go.Proofs.YtbhlmeghbfmgiaaW.PrintMore
attribute [local go_sem] max2_int min2_int max_two min_two max_three min_three max_four min_four
set_option linter.unusedVariables false
set_option linter.unusedSimpArgs false
def impl_divisor.l0 : Nat → Int → Int → Option (Int)
 | 0, _, _ => none
 | k + 1, x0, x1 => if x1 = 0 then (some x0) else (impl_divisor.l0 k x1 (Int.tmod x0 x1))
def impl_divisor.f (k : Nat) (a0 : Int) (a1 : Int) : Option (Int) := impl_divisor.l0 k a0 a1
set_option maxHeartbeats 8000000 in
set_option maxRecDepth 100000 in
theorem impl_divisor.calls (k : Nat) (a0 : Int) (a1 : Int) (r : Int) (w : World) (h : impl_divisor.f k a0 a1 = some r) :
  Calls Try.prog 123 #[.int .i64 a0, .int .i64 a1] w fun e w' => e = .returned (.int .i64 r) ∧ Drawn0 w w' := by
 have H : (impl_divisor.l0 k a0 a1) = some r := h
 clear h
 have H' := sk_' H
 clear H
 go_enter Try.func123, Try.ntmps123
 go_wp2
 repeat (go_quiet (fail); try go_wp2)
 go_loopg [0, 1] k (fun kq v0 v1 w' => ∃ (x0_1 : Int) (x1_1 : Int), v0 = .int .i64 x0_1 ∧ v1 = .int .i64 x1_1 ∧ Aside0 (impl_divisor.l0 kq x0_1 x1_1 = some r) ∧ Aside0 (kq ≤ k) ∧ Drawn0 w w')
 case atStart => exact ⟨(a0), (a1), (by first | rfl | (simp; done) | (simp [*]; done)), (by first | rfl | (simp; done) | (simp [*]; done)), H', ⟨Nat.le_refl _⟩, by repeat (first | exact Drawn0.refl _ | apply Drawn0.step)⟩
 case round =>
  clear H'
  try clear c1
  try clear p2
  obtain ⟨x0_1, x1_1, rfl, rfl, HA, HK1, ⟨m1, rfl⟩⟩ := hrel
  cases gk with
  | zero => exact absurd HA.out (by simp [impl_divisor.l0])
  | succ k1 =>
   have H := HA.out
   clear HA
   simp only [impl_divisor.l0] at H
   by_cases c3 : x1_1 = 0
   ·
    rw [if_pos c3] at H
    have c3b0 : (x1_1 == 0) = true := beq_iff_eq.mpr c3
    have c3b1 : (x1_1 != 0) = false := bne_eq_false_iff_eq.mpr c3
    clear c3
    obtain rfl := Option.some.inj H
    go_wp2
    repeat (go_quiet (fail); try go_wp2)
    go_ret
    exact ⟨by first | rfl | (simp; done) | (simp [*]; done), by repeat (first | exact Drawn0.refl _ | apply Drawn0.step)⟩
   rw [if_neg c3] at H
   have c3b0 : (x1_1 == 0) = false := beq_eq_false_iff_ne.mpr c3
   have c3b1 : (x1_1 != 0) = true := bne_iff_ne.mpr c3
   have H' := sk_' H
   clear H
   go_wp2
   repeat (go_quiet (fail); try go_wp2)
   go_roundg k1
   case measure => have := HK1.out; omega
   case rel => exact ⟨(x1_1), (Int.tmod x0_1 x1_1), (by first | rfl | (simp; done) | (simp [*]; done)), (by first | rfl | (simp; done) | (simp [*]; done)), H', ⟨by have := HK1.out; omega⟩, by repeat (first | exact Drawn0.refl _ | apply Drawn0.step)⟩
end Go.Proofs.Ytbhlmeghbfmgiaa.F

namespace Go.Proofs.Ytbhlmeghbfmgiaa.F
open Go.RowKit Go.Proofs.YtbhlmeghbfmgiaaW.PrintWords Go.Proofs.YtbhlmeghbfmgiaaW.PrintLast Go.Proofs.YtbhlmeghbfmgiaaW.PrintMore
attribute [local go_sem] max2_int min2_int max_two min_two max_three min_three max_four min_four
set_option linter.unusedVariables false
set_option linter.unusedSimpArgs false
def impl_IsRatio.f (k : Nat) (a0_0 : Int) (a0_1 : Int) : Option (Bool) := (impl_InRange.f a0_1 1 1000000).bind fun t617 => (if t617 = true then ((impl_InRange.f a0_0 (-1000000000) 1000000000).bind fun t618 => (if t618 = true then ((impl_divisor.f k (mx a0_0 (wrap64 (-a0_0))) a0_1).bind fun t619 => (some (t619 == 1))) else (some false))) else (some false))
set_option maxHeartbeats 8000000 in
set_option maxRecDepth 100000 in
theorem impl_IsRatio.calls (k : Nat) (a0_0 : Int) (a0_1 : Int) (r : Bool) (w : World) (h : impl_IsRatio.f k a0_0 a0_1 = some r) :
  Calls Try.prog 62 #[.agg #[.int .i64 a0_0, .int .i64 a0_1]] w fun e w' => e = .returned (.bool r) ∧ Below w.heap.size w w' := by
 have hu95 := Try.underlying95
 have HB := sk_' (Below.refl w.heap.size w)
 have H : ((impl_InRange.f a0_1 1 1000000).bind fun t617 => (if t617 = true then ((impl_InRange.f a0_0 (-1000000000) 1000000000).bind fun t618 => (if t618 = true then ((impl_divisor.f k (mx a0_0 (wrap64 (-a0_0))) a0_1).bind fun t619 => (some (t619 == 1))) else (some false))) else (some false))) = some r := h
 clear h
 replace H := bs_' H
 obtain ⟨t617, A20, H⟩ := H
 try dsimp only at H
 have A2 := sk_' A20
 clear A20
 by_cases c3 : t617 = true
 ·
  subst c3
  rw [if_pos rfl] at H
  replace H := bs_' H
  obtain ⟨t618, A40, H⟩ := H
  try dsimp only at H
  have A4 := sk_' A40
  clear A40
  by_cases c5 : t618 = true
  ·
   subst c5
   rw [if_pos rfl] at H
   obtain ⟨ji6, hji6⟩ : ∃ j_ : Int, (mx a0_0 (wrap64 (-a0_0))) = j_ := ⟨_, rfl⟩
   replace H : ((impl_divisor.f k (ji6) a0_1).bind fun t619 => (some (t619 == 1))) = some r := by first | (rw [hji6] at H; exact H) | (simp only [hji6] at H ⊢; exact H)
   (try rw [hji6] at A2)
   (try rw [hji6] at A4)
   have hji6_ : (if a0_0 < (wrap64 (-a0_0)) then (wrap64 (-a0_0)) else a0_0) = ji6 := hji6
   replace H := bs_' H
   obtain ⟨t619, A70, H⟩ := H
   try dsimp only at H
   have A7 := sk_' A70
   clear A70
   obtain rfl := Option.some.inj H
   go_enter Try.func62, Try.ntmps62
   go_wp2_with (first | ((with_reducible refine gate_dst (N := 1) rfl ?_); (try (refine gate_guard (by rfl) ?_; dsimp only)); refine box_event ?hg (N := 1) ?hd (cs := #[.int .i64 a0_0, .int .i64 a0_1]) (t := 95) ?hr ?_; (case hd => rfl); (case hg => rfl); (case hr => first | (go_simp; done) | (go_simp; rfl)); intro gb616 hg w8 hbox hb; have n0_ := sk_' (pp_' (by repeat (first | (with_reducible first | exact HB.out | apply pa_' | apply pn_' | apply pd_') | exact HB.out)) hb); have n1_ := sk_' (hbox); have n2_ := sk_' ((by rw [hg]; exact (ps_' (by repeat (first | (with_reducible first | exact HB.out | apply pa_' | apply pn_' | apply pd_') | exact HB.out))) : w.heap.size ≤ gb616)); have n3_ := sk_' ((by rw [hg]; exact (ps_' (by repeat (first | (with_reducible first | exact HB.out | apply pa_' | apply pn_' | apply pd_') | exact HB.out))) : w.heap.size ≤ gb616)); clear HB; have HB := n0_; have BK616 := n1_; have GW616 := n2_; have GE616 := n3_; clear n0_ n1_ n2_ n3_; clear hb hbox hg; have hcz9_0 : w8.cell? ⟨gb616, 0, none⟩ = some (.int .i64 a0_0) := (kc_' BK616.out 0).trans rfl; have hcz9_1 : w8.cell? ⟨gb616, 1, none⟩ = some (.int .i64 a0_1) := (kc_' BK616.out 1).trans rfl; have hfz9_0 := kf_' BK616.out 0; have hfz9_1 := kf_' BK616.out 1) | ((with_reducible refine xj_' (f := 86) rfl ?_); refine goesL_ (some 5) rfl rfl Try.func86 (by kernel_rfl) rfl #[.int .i64 a0_1, .int .i64 1, .int .i64 1000000] rfl (by (try simp only [xm_', xc_', xn_']); first | done | rfl | (simp only [xd_', xt_']; rfl)) ?_; (with_reducible refine (impl_InRange.calls a0_1 1 1000000 true _ A2.out).mono ?_); rintro e w' ⟨rfl, ⟨nd, rfl⟩⟩; refine ⟨_, rfl, ?_⟩) | (go_at_call 86; (with_reducible refine (impl_InRange.calls a0_0 (-1000000000) 1000000000 true _ A4.out).mono ?_); rintro e w' ⟨rfl, ⟨nd, rfl⟩⟩) | (go_at_call 123; (with_reducible refine (impl_divisor.calls k ji6 a0_1 t619 _ A7.out).mono ?_); rintro e w' ⟨rfl, ⟨nd, rfl⟩⟩))
   go_ret
   exact ⟨by first | rfl | (simp [errW_none, errW_some] <;> rfl) | (simp only [← hji6]; first | rfl | (simp [errW_none, errW_some] <;> rfl)) | (simp [*, errW_none, errW_some] <;> rfl), by repeat (first | (with_reducible first | exact HB.out | apply pa_' | apply pn_' | apply pd_' | refine pt_' ?_ GE616.out) | exact HB.out)⟩
  replace c5 := Bool.eq_false_iff.mpr c5
  subst c5
  rw [if_neg (show ¬ (false = true) by decide)] at H
  obtain rfl := Option.some.inj H
  go_enter Try.func62, Try.ntmps62
  go_wp2_with (first | ((with_reducible refine gate_dst (N := 1) rfl ?_); (try (refine gate_guard (by rfl) ?_; dsimp only)); refine box_event ?hg (N := 1) ?hd (cs := #[.int .i64 a0_0, .int .i64 a0_1]) (t := 95) ?hr ?_; (case hd => rfl); (case hg => rfl); (case hr => first | (go_simp; done) | (go_simp; rfl)); intro gb616 hg w10 hbox hb; have n0_ := sk_' (pp_' (by repeat (first | (with_reducible first | exact HB.out | apply pa_' | apply pn_' | apply pd_') | exact HB.out)) hb); have n1_ := sk_' (hbox); have n2_ := sk_' ((by rw [hg]; exact (ps_' (by repeat (first | (with_reducible first | exact HB.out | apply pa_' | apply pn_' | apply pd_') | exact HB.out))) : w.heap.size ≤ gb616)); have n3_ := sk_' ((by rw [hg]; exact (ps_' (by repeat (first | (with_reducible first | exact HB.out | apply pa_' | apply pn_' | apply pd_') | exact HB.out))) : w.heap.size ≤ gb616)); clear HB; have HB := n0_; have BK616 := n1_; have GW616 := n2_; have GE616 := n3_; clear n0_ n1_ n2_ n3_; clear hb hbox hg; have hcz11_0 : w10.cell? ⟨gb616, 0, none⟩ = some (.int .i64 a0_0) := (kc_' BK616.out 0).trans rfl; have hcz11_1 : w10.cell? ⟨gb616, 1, none⟩ = some (.int .i64 a0_1) := (kc_' BK616.out 1).trans rfl; have hfz11_0 := kf_' BK616.out 0; have hfz11_1 := kf_' BK616.out 1) | ((with_reducible refine xj_' (f := 86) rfl ?_); refine goesL_ (some 5) rfl rfl Try.func86 (by kernel_rfl) rfl #[.int .i64 a0_1, .int .i64 1, .int .i64 1000000] rfl (by (try simp only [xm_', xc_', xn_']); first | done | rfl | (simp only [xd_', xt_']; rfl)) ?_; (with_reducible refine (impl_InRange.calls a0_1 1 1000000 true _ A2.out).mono ?_); rintro e w' ⟨rfl, ⟨nd, rfl⟩⟩; refine ⟨_, rfl, ?_⟩) | (go_at_call 86; (with_reducible refine (impl_InRange.calls a0_0 (-1000000000) 1000000000 false _ A4.out).mono ?_); rintro e w' ⟨rfl, ⟨nd, rfl⟩⟩))
  go_ret
  exact ⟨by first | rfl | (simp [errW_none, errW_some] <;> rfl) | (simp [*, errW_none, errW_some] <;> rfl), by repeat (first | (with_reducible first | exact HB.out | apply pa_' | apply pn_' | apply pd_' | refine pt_' ?_ GE616.out) | exact HB.out)⟩
 replace c3 := Bool.eq_false_iff.mpr c3
 subst c3
 rw [if_neg (show ¬ (false = true) by decide)] at H
 obtain rfl := Option.some.inj H
 go_enter Try.func62, Try.ntmps62
 go_wp2_with (first | ((with_reducible refine gate_dst (N := 1) rfl ?_); (try (refine gate_guard (by rfl) ?_; dsimp only)); refine box_event ?hg (N := 1) ?hd (cs := #[.int .i64 a0_0, .int .i64 a0_1]) (t := 95) ?hr ?_; (case hd => rfl); (case hg => rfl); (case hr => first | (go_simp; done) | (go_simp; rfl)); intro gb616 hg w12 hbox hb; have n0_ := sk_' (pp_' (by repeat (first | (with_reducible first | exact HB.out | apply pa_' | apply pn_' | apply pd_') | exact HB.out)) hb); have n1_ := sk_' (hbox); have n2_ := sk_' ((by rw [hg]; exact (ps_' (by repeat (first | (with_reducible first | exact HB.out | apply pa_' | apply pn_' | apply pd_') | exact HB.out))) : w.heap.size ≤ gb616)); have n3_ := sk_' ((by rw [hg]; exact (ps_' (by repeat (first | (with_reducible first | exact HB.out | apply pa_' | apply pn_' | apply pd_') | exact HB.out))) : w.heap.size ≤ gb616)); clear HB; have HB := n0_; have BK616 := n1_; have GW616 := n2_; have GE616 := n3_; clear n0_ n1_ n2_ n3_; clear hb hbox hg; have hcz13_0 : w12.cell? ⟨gb616, 0, none⟩ = some (.int .i64 a0_0) := (kc_' BK616.out 0).trans rfl; have hcz13_1 : w12.cell? ⟨gb616, 1, none⟩ = some (.int .i64 a0_1) := (kc_' BK616.out 1).trans rfl; have hfz13_0 := kf_' BK616.out 0; have hfz13_1 := kf_' BK616.out 1) | ((with_reducible refine xj_' (f := 86) rfl ?_); refine goesL_ (some 5) rfl rfl Try.func86 (by kernel_rfl) rfl #[.int .i64 a0_1, .int .i64 1, .int .i64 1000000] rfl (by (try simp only [xm_', xc_', xn_']); first | done | rfl | (simp only [xd_', xt_']; rfl)) ?_; (with_reducible refine (impl_InRange.calls a0_1 1 1000000 false _ A2.out).mono ?_); rintro e w' ⟨rfl, ⟨nd, rfl⟩⟩; refine ⟨_, rfl, ?_⟩))
 go_ret
 exact ⟨by first | rfl | (simp [errW_none, errW_some] <;> rfl) | (simp [*, errW_none, errW_some] <;> rfl), by repeat (first | (with_reducible first | exact HB.out | apply pa_' | apply pn_' | apply pd_' | refine pt_' ?_ GE616.out) | exact HB.out)⟩
end Go.Proofs.Ytbhlmeghbfmgiaa.F
