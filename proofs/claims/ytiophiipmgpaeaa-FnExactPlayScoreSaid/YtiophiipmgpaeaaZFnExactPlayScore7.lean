/- FnExactPlayScore, part 7 of 7: texts of the claim, joined into one file. -/
import Derived.Test.YtiophiipmgpaeaaZFnExactPlayScore6
import Derived.Deep.Slices
import Derived.Deep.Fields
import Derived.ChangeSame
import Derived.ChangeArms
import Derived.Lib.SmallJoins
import Derived.OpenShut

namespace Go.Proofs.Ytiophiipmgpaeaa.F
open Go.RowKit Go.Proofs.YtiophiipmgpaeaaW.PrintWords Go.Proofs.YtiophiipmgpaeaaW.PrintLast Go.Proofs.YtiophiipmgpaeaaW.PrintMore
attribute [local go_sem] max2_int min2_int max_two min_two max_three min_three max_four min_four
set_option linter.unusedVariables false
set_option linter.unusedSimpArgs false
mutual
def laws_FnExactPlayScore.j0 : Nat → List (S126) → List (S142) → List (S109) → Bool → List (S118) → List (S140) → List (S109) → Bool → Bool → Option (Bool)
 | 0, _, _, _, _, _, _, _, _, _ => none
 | k + 1, x0, x1, x6, x7, x8, x9, x10, x11, x53 => if x53 = true then (some false) else ((laws_toEventS.f k x0).bind fun t1189 => ((laws_eqEventS.f k x8 t1189).bind fun t1192 => (if t1192 = true then ((laws_toTempoS.f k x1).bind fun t1193 => ((laws_eqTempoS.f k x9 t1193).bind fun t1196 => (if t1196 = true then ((laws_markEventS.f k x8 1).bind fun bt1197 => ((laws_markTempoS.f k x9 bt1197.1).bind fun bt1199 => (if bt1199.1 < 0 then (laws_FnExactPlayScore.j1 k x0 x1 x6 x7 x10 true) else ((laws_eqPlayedS.f k x10 x6).bind fun t1201 => (if t1201 = true then (laws_FnExactPlayScore.j1 k x0 x1 x6 x7 x10 (x11 != x7)) else (laws_FnExactPlayScore.j1 k x0 x1 x6 x7 x10 true)))))) else (some false)))) else (some false))))
def laws_FnExactPlayScore.j1 : Nat → List (S126) → List (S142) → List (S109) → Bool → List (S109) → Bool → Option (Bool)
 | 0, _, _, _, _, _, _ => none
 | k + 1, x0, x1, x6, x7, x10, x82 => if x82 = true then (some false) else ((laws_markPlayedS.f k x10 1).bind fun bt1202 => ((laws_heldPlayedS.f k bt1202.2 1).bind fun t1204 => (if t1204 < 0 then (some false) else (if t1204 = bt1202.1 then ((laws_toEventS.f k x0).bind fun t1205 => ((laws_toTempoS.f k x1).bind fun t1208 => ((impl_PlayScore.f k t1205 t1208).bind fun bt1211 => ((laws_eqPlayedS.f k bt1211.1 x6).bind fun t1215 => (if t1215 = true then (laws_FnExactPlayScore.j2 k bt1202.2 bt1202.1 (bt1211.2 != x7)) else (laws_FnExactPlayScore.j2 k bt1202.2 bt1202.1 true)))))) else (some false)))))
def laws_FnExactPlayScore.j2 : Nat → List (S109) → Int → Bool → Option (Bool)
 | 0, _, _, _ => none
 | k + 1, x10, x13, x110 => if x110 = true then (some false) else ((laws_heldPlayedS.f k x10 1).bind fun t1216 => (if t1216 < 0 then (some false) else (if t1216 = x13 then (some true) else (some false))))
end
def laws_FnExactPlayScore.f (k : Nat) (l0 : List (S126)) (l1 : List (S142)) : Option (Bool) := (laws_szEventS.f l0 1048576).bind fun t1166 => (if t1166 < 0 then (some true) else ((laws_szTempoS.f l1 t1166).bind fun t1167 => (if t1167 < 0 then (some true) else ((laws_toEventS.f k l0).bind fun t1168 => ((laws_toTempoS.f k l1).bind fun t1171 => ((spec_PlayScore.f k t1168 t1171).bind fun bt1174 => ((laws_toEventS.f k l0).bind fun t1178 => ((laws_toTempoS.f k l1).bind fun t1181 => ((impl_PlayScore.f k t1178 t1181).bind fun bt1184 => ((laws_eqPlayedS.f k bt1184.1 bt1174.1).bind fun t1188 => (if t1188 = true then (laws_FnExactPlayScore.j0 k l0 l1 bt1174.1 bt1174.2 t1178 t1181 bt1184.1 bt1184.2 (bt1184.2 != bt1174.2)) else (laws_FnExactPlayScore.j0 k l0 l1 bt1174.1 bt1174.2 t1178 t1181 bt1184.1 bt1184.2 true))))))))))))
set_option maxHeartbeats 8000000 in
set_option maxRecDepth 100000 in
theorem laws_FnExactPlayScore.calls (k : Nat) (A0 : Option Addr) (c0 : Nat) (l0 : List (S126)) (A1 : Option Addr) (c1 : Nat) (l1 : List (S142)) (r : Bool) (w : World) (hr0 : Kd.C k126 w A0 l0.length l0) (hc0 : l0.length ≤ c0) (hr1 : Kd.C k142 w A1 l1.length l1) (hc1 : l1.length ≤ c1) (h : laws_FnExactPlayScore.f k l0 l1 = some r) :
  Calls Try.prog 12 #[.slice A0 l0.length c0, .slice A1 l1.length c1] w fun e w' => e = .returned (.bool r) ∧ Below w.heap.size w w' := by
 have HR0 := sk_' hr0
 have HC0 := sk_' hc0
 clear hr0 hc0
 have HR1 := sk_' hr1
 have HC1 := sk_' hc1
 clear hr1 hc1
 have HB := sk_' (Below.refl w.heap.size w)
 have H : ((laws_szEventS.f l0 1048576).bind fun t1166 => (if t1166 < 0 then (some true) else ((laws_szTempoS.f l1 t1166).bind fun t1167 => (if t1167 < 0 then (some true) else ((laws_toEventS.f k l0).bind fun t1168 => ((laws_toTempoS.f k l1).bind fun t1171 => ((spec_PlayScore.f k t1168 t1171).bind fun bt1174 => ((laws_toEventS.f k l0).bind fun t1178 => ((laws_toTempoS.f k l1).bind fun t1181 => ((impl_PlayScore.f k t1178 t1181).bind fun bt1184 => ((laws_eqPlayedS.f k bt1184.1 bt1174.1).bind fun t1188 => (if t1188 = true then (laws_FnExactPlayScore.j0 k l0 l1 bt1174.1 bt1174.2 t1178 t1181 bt1184.1 bt1184.2 (bt1184.2 != bt1174.2)) else (laws_FnExactPlayScore.j0 k l0 l1 bt1174.1 bt1174.2 t1178 t1181 bt1184.1 bt1184.2 true))))))))))))) = some r := h
 clear h
 replace H := bs_' H
 obtain ⟨t1166, A30, H⟩ := H
 try dsimp only at H
 have A3 := sk_' A30
 clear A30
 by_cases c4 : t1166 < 0
 ·
  rw [if_pos c4] at H
  have c4b0 : decide (t1166 < 0) = true := decide_eq_true c4
  clear c4
  obtain rfl := Option.some.inj H
  go_enter Try.func12, Try.ntmps12
  go_wp2_with (first | ((with_reducible refine xj_' (f := 46) rfl ?_); refine goesL_ (some 19) rfl rfl Try.func46 (by kernel_rfl) rfl #[.slice A0 l0.length c0, .int .i64 1048576] rfl (by (try simp only [xm_', xc_', xn_']); first | done | rfl | (simp only [xd_', xt_']; rfl)) ?_; (with_reducible refine (laws_szEventS.calls _ _ l0 1048576 t1166 _ ?side1 ?side2 A3.out).mono ?_); (case side1 => repeat (first | exact HR0.out | (with_reducible refine xg_' ?_ _) | (with_reducible refine xe_' ?_ _) | (with_reducible refine xf_' ?_))); (case side2 => exact HC0.out); rintro e w' ⟨rfl, ⟨nd, rfl⟩⟩; refine ⟨_, rfl, ?_⟩))
  go_ret
  exact ⟨by first | rfl | (simp [errW_none, errW_some] <;> rfl) | (simp [*, errW_none, errW_some] <;> rfl), by repeat (first | (with_reducible first | exact HB.out | apply pa_' | apply pn_' | apply pd_') | exact HB.out)⟩
 rw [if_neg c4] at H
 have c4b0 : decide (t1166 < 0) = false := decide_eq_false c4
 clear c4
 replace H := bs_' H
 obtain ⟨t1167, A50, H⟩ := H
 try dsimp only at H
 have A5 := sk_' A50
 clear A50
 by_cases c6 : t1167 < 0
 ·
  rw [if_pos c6] at H
  have c6b0 : decide (t1167 < 0) = true := decide_eq_true c6
  clear c6
  obtain rfl := Option.some.inj H
  go_enter Try.func12, Try.ntmps12
  go_wp2_with (first | ((with_reducible refine xj_' (f := 46) rfl ?_); refine goesL_ (some 19) rfl rfl Try.func46 (by kernel_rfl) rfl #[.slice A0 l0.length c0, .int .i64 1048576] rfl (by (try simp only [xm_', xc_', xn_']); first | done | rfl | (simp only [xd_', xt_']; rfl)) ?_; (with_reducible refine (laws_szEventS.calls _ _ l0 1048576 t1166 _ ?side1 ?side2 A3.out).mono ?_); (case side1 => repeat (first | exact HR0.out | (with_reducible refine xg_' ?_ _) | (with_reducible refine xe_' ?_ _) | (with_reducible refine xf_' ?_))); (case side2 => exact HC0.out); rintro e w' ⟨rfl, ⟨nd, rfl⟩⟩; refine ⟨_, rfl, ?_⟩) | ((with_reducible refine xj_' (f := 56) rfl ?_); refine goesL_ (some 24) rfl rfl Try.func56 (by kernel_rfl) rfl #[.slice A1 l1.length c1, .int .i64 t1166] rfl (by (try simp only [xm_', xc_', xn_']); first | done | rfl | (simp only [xd_', xt_']; rfl)) ?_; (with_reducible refine (laws_szTempoS.calls _ _ l1 t1166 t1167 _ ?side1 ?side2 A5.out).mono ?_); (case side1 => repeat (first | exact HR1.out | (with_reducible refine xg_' ?_ _) | (with_reducible refine xe_' ?_ _) | (with_reducible refine xf_' ?_))); (case side2 => exact HC1.out); rintro e w' ⟨rfl, ⟨nd, rfl⟩⟩; refine ⟨_, rfl, ?_⟩))
  go_ret
  exact ⟨by first | rfl | (simp [errW_none, errW_some] <;> rfl) | (simp [*, errW_none, errW_some] <;> rfl), by repeat (first | (with_reducible first | exact HB.out | apply pa_' | apply pn_' | apply pd_') | exact HB.out)⟩
 rw [if_neg c6] at H
 have c6b0 : decide (t1167 < 0) = false := decide_eq_false c6
 clear c6
 replace H := bs_' H
 obtain ⟨t1168, A70, H⟩ := H
 try dsimp only at H
 have A7 := sk_' A70
 clear A70
 replace H := bs_' H
 obtain ⟨t1171, A80, H⟩ := H
 try dsimp only at H
 have A8 := sk_' A80
 clear A80
 replace H := bs_' H
 obtain ⟨⟨t1174, t1175⟩, A90, H⟩ := H
 try dsimp only at H
 have A9 := sk_' A90
 clear A90
 replace H := bs_' H
 obtain ⟨t1178, A100, H⟩ := H
 try dsimp only at H
 have A10 := sk_' A100
 clear A100
 replace H := bs_' H
 obtain ⟨t1181, A110, H⟩ := H
 try dsimp only at H
 have A11 := sk_' A110
 clear A110
 replace H := bs_' H
 obtain ⟨⟨t1184, t1185⟩, A120, H⟩ := H
 try dsimp only at H
 have A12 := sk_' A120
 clear A120
 have HC13 := sk_' H
 clear H
 go_enter Try.func12, Try.ntmps12
 go_upto_region 12 with (first | ((with_reducible refine xj_' (f := 46) rfl ?_); refine goesL_ (some 19) rfl rfl Try.func46 (by kernel_rfl) rfl #[.slice A0 l0.length c0, .int .i64 1048576] rfl (by (try simp only [xm_', xc_', xn_']); first | done | rfl | (simp only [xd_', xt_']; rfl)) ?_; (with_reducible refine (laws_szEventS.calls _ _ l0 1048576 t1166 _ ?side1 ?side2 A3.out).mono ?_); (case side1 => repeat (first | exact HR0.out | (with_reducible refine xg_' ?_ _) | (with_reducible refine xe_' ?_ _) | (with_reducible refine xf_' ?_))); (case side2 => exact HC0.out); rintro e w' ⟨rfl, ⟨nd, rfl⟩⟩; refine ⟨_, rfl, ?_⟩) | ((with_reducible refine xj_' (f := 56) rfl ?_); refine goesL_ (some 24) rfl rfl Try.func56 (by kernel_rfl) rfl #[.slice A1 l1.length c1, .int .i64 t1166] rfl (by (try simp only [xm_', xc_', xn_']); first | done | rfl | (simp only [xd_', xt_']; rfl)) ?_; (with_reducible refine (laws_szTempoS.calls _ _ l1 t1166 t1167 _ ?side1 ?side2 A5.out).mono ?_); (case side1 => repeat (first | exact HR1.out | (with_reducible refine xg_' ?_ _) | (with_reducible refine xe_' ?_ _) | (with_reducible refine xf_' ?_))); (case side2 => exact HC1.out); rintro e w' ⟨rfl, ⟨nd, rfl⟩⟩; refine ⟨_, rfl, ?_⟩) | ((with_reducible refine xj_' (f := 48) rfl ?_); refine goesL_ (some 29) rfl rfl Try.func48 (by kernel_rfl) rfl #[.slice A0 l0.length c0] rfl (by (try simp only [xm_', xc_', xn_']); first | done | rfl | (simp only [xd_', xt_']; rfl)) ?_; (with_reducible refine (laws_toEventS.calls k _ _ l0 t1168 _ ?side1 ?side2 A7.out).mono ?_); (case side1 => repeat (first | exact HR0.out | (with_reducible refine xg_' ?_ _) | (with_reducible refine xe_' ?_ _) | (with_reducible refine xf_' ?_))); (case side2 => exact HC0.out); rintro e w14 ⟨v1169, rfl, ho0, hb⟩; refine ⟨_, rfl, ?_⟩; have n0_ := sk_' (Kd.R_lower ho0 (ps_' (by repeat (first | (with_reducible first | exact HB.out | apply pa_' | apply pn_' | apply pd_') | exact HB.out)))); have n1_ := sk_' (pp_' (by repeat (first | (with_reducible first | exact HB.out | apply pa_' | apply pn_' | apply pd_') | exact HB.out)) hb); clear HB; have HO1170 := n0_; have HB := n1_; clear n0_ n1_; (try clear hb); (try clear hb2); (try clear hk); (try clear hi); (try clear ho0)) | ((with_reducible refine xj_' (f := 58) rfl ?_); refine goesL_ (some 31) rfl rfl Try.func58 (by kernel_rfl) rfl #[.slice A1 l1.length c1] rfl (by (try simp only [xm_', xc_', xn_']); first | done | rfl | (simp only [xd_', xt_']; rfl)) ?_; (with_reducible refine (laws_toTempoS.calls k _ _ l1 t1171 _ ?side1 ?side2 A8.out).mono ?_); (case side1 => repeat (first | exact (Kd.C_below HR1.out HB.out) | (with_reducible refine xg_' ?_ _) | (with_reducible refine xe_' ?_ _) | (with_reducible refine xf_' ?_))); (case side2 => exact HC1.out); rintro e w15 ⟨v1172, rfl, ho0, hb⟩; refine ⟨_, rfl, ?_⟩; have n0_ := sk_' (xb_' (by (with_reducible repeat (first | apply ra_' | apply rn_' | apply rd1_')); exact HO1170.out) hb); have n1_ := sk_' (Kd.R_lower ho0 (ps_' (by repeat (first | (with_reducible first | exact HB.out | apply pa_' | apply pn_' | apply pd_') | exact HB.out)))); have n2_ := sk_' (pp_' (by repeat (first | (with_reducible first | exact HB.out | apply pa_' | apply pn_' | apply pd_') | exact HB.out)) hb); clear HO1170; clear HB; have HO1170 := n0_; have HO1173 := n1_; have HB := n2_; clear n0_ n1_ n2_; (try clear hb); (try clear hb2); (try clear hk); (try clear hi); (try clear ho0); obtain ⟨Ao16, co16, eo16⟩ := Kd.R_slice HO1170.out; subst eo16; obtain ⟨Ao17, co17, eo17⟩ := Kd.R_slice HO1173.out; subst eo17) | ((with_reducible refine xj_' (f := 57) rfl ?_); refine goesL_ (some 32) rfl rfl Try.func57 (by kernel_rfl) rfl #[.slice Ao16 t1168.length co16, .slice Ao17 t1171.length co17] rfl (by (try simp only [xm_', xc_', xn_']); first | done | rfl | (simp only [xd_', xt_']; rfl)) ?_; (with_reducible refine (spec_PlayScore.calls k _ _ t1168 _ _ t1171 t1174 t1175 _ ?side1 ?side2 ?side3 ?side4 A9.out).mono ?_); (case side1 => repeat (first | exact (xr_' HO1170.out).2.2 | (with_reducible refine xg_' ?_ _) | (with_reducible refine xe_' ?_ _) | (with_reducible refine xf_' ?_))); (case side2 => exact (xr_' HO1170.out).2.1); (case side3 => repeat (first | exact (xr_' HO1173.out).2.2 | (with_reducible refine xg_' ?_ _) | (with_reducible refine xe_' ?_ _) | (with_reducible refine xf_' ?_))); (case side4 => exact (xr_' HO1173.out).2.1); rintro e w18 ⟨v1176, rfl, ho0, hb⟩; refine ⟨_, rfl, ?_⟩; have n0_ := sk_' (xb_' (by (with_reducible repeat (first | apply ra_' | apply rn_' | apply rd1_')); exact HO1170.out) hb); have n1_ := sk_' (xb_' (by (with_reducible repeat (first | apply ra_' | apply rn_' | apply rd1_')); exact HO1173.out) hb); have n2_ := sk_' (Kd.R_lower ho0 (ps_' (by repeat (first | (with_reducible first | exact HB.out | apply pa_' | apply pn_' | apply pd_') | exact HB.out)))); have n3_ := sk_' (pp_' (by repeat (first | (with_reducible first | exact HB.out | apply pa_' | apply pn_' | apply pd_') | exact HB.out)) hb); clear HO1170; clear HO1173; clear HB; have HO1170 := n0_; have HO1173 := n1_; have HO1177 := n2_; have HB := n3_; clear n0_ n1_ n2_ n3_; (try clear hb); (try clear hb2); (try clear hk); (try clear hi); (try clear ho0)) | ((with_reducible refine xj_' (f := 48) rfl ?_); refine goesL_ (some 36) rfl rfl Try.func48 (by kernel_rfl) rfl #[.slice A0 l0.length c0] rfl (by (try simp only [xm_', xc_', xn_']); first | done | rfl | (simp only [xd_', xt_']; rfl)) ?_; (with_reducible refine (laws_toEventS.calls k _ _ l0 t1178 _ ?side1 ?side2 A10.out).mono ?_); (case side1 => repeat (first | exact (Kd.C_below HR0.out HB.out) | (with_reducible refine xg_' ?_ _) | (with_reducible refine xe_' ?_ _) | (with_reducible refine xf_' ?_))); (case side2 => exact HC0.out); rintro e w19 ⟨v1179, rfl, ho0, hb⟩; refine ⟨_, rfl, ?_⟩; have n0_ := sk_' (Kd.R_elder' (by (with_reducible repeat (first | apply ra_' | apply rn_' | apply rd1_')); exact HO1170.out) (Kd.R_base ho0) hb); have n1_ := sk_' (xb_' (by (with_reducible repeat (first | apply ra_' | apply rn_' | apply rd1_')); exact HO1173.out) hb); have n2_ := sk_' (xb_' (by (with_reducible repeat (first | apply ra_' | apply rn_' | apply rd1_')); exact HO1177.out) hb); have n3_ := sk_' (Kd.R_lower (Kd.R_new' ho0 (Kd.R_lt (by (with_reducible repeat (first | apply ra_' | apply rn_' | apply rd1_')); exact HO1170.out))) (ps_' (by repeat (first | (with_reducible first | exact HB.out | apply pa_' | apply pn_' | apply pd_') | exact HB.out)))); have n4_ := sk_' (pp_' (by repeat (first | (with_reducible first | exact HB.out | apply pa_' | apply pn_' | apply pd_') | exact HB.out)) hb); clear HO1170; clear HO1173; clear HO1177; clear HB; have HO1170 := n0_; have HO1173 := n1_; have HO1177 := n2_; have HO1180 := n3_; have HB := n4_; clear n0_ n1_ n2_ n3_ n4_; (try clear hb); (try clear hb2); (try clear hk); (try clear hi); (try clear ho0)) | ((with_reducible refine xj_' (f := 58) rfl ?_); refine goesL_ (some 38) rfl rfl Try.func58 (by kernel_rfl) rfl #[.slice A1 l1.length c1] rfl (by (try simp only [xm_', xc_', xn_']); first | done | rfl | (simp only [xd_', xt_']; rfl)) ?_; (with_reducible refine (laws_toTempoS.calls k _ _ l1 t1181 _ ?side1 ?side2 A11.out).mono ?_); (case side1 => repeat (first | exact (Kd.C_below HR1.out HB.out) | (with_reducible refine xg_' ?_ _) | (with_reducible refine xe_' ?_ _) | (with_reducible refine xf_' ?_))); (case side2 => exact HC1.out); rintro e w20 ⟨v1182, rfl, ho0, hb⟩; refine ⟨_, rfl, ?_⟩; have n0_ := sk_' (xb_' (by (with_reducible repeat (first | apply ra_' | apply rn_' | apply rd1_')); exact HO1170.out) hb); have n1_ := sk_' (Kd.R_elder' (by (with_reducible repeat (first | apply ra_' | apply rn_' | apply rd1_')); exact HO1173.out) (Kd.R_base ho0) hb); have n2_ := sk_' (xb_' (by (with_reducible repeat (first | apply ra_' | apply rn_' | apply rd1_')); exact HO1177.out) hb); have n3_ := sk_' (xb_' (by (with_reducible repeat (first | apply ra_' | apply rn_' | apply rd1_')); exact HO1180.out) hb); have n4_ := sk_' (Kd.R_lower (Kd.R_new' ho0 (Kd.R_lt (by (with_reducible repeat (first | apply ra_' | apply rn_' | apply rd1_')); exact HO1173.out))) (ps_' (by repeat (first | (with_reducible first | exact HB.out | apply pa_' | apply pn_' | apply pd_') | exact HB.out)))); have n5_ := sk_' (pp_' (by repeat (first | (with_reducible first | exact HB.out | apply pa_' | apply pn_' | apply pd_') | exact HB.out)) hb); clear HO1170; clear HO1173; clear HO1177; clear HO1180; clear HB; have HO1170 := n0_; have HO1173 := n1_; have HO1177 := n2_; have HO1180 := n3_; have HO1183 := n4_; have HB := n5_; clear n0_ n1_ n2_ n3_ n4_ n5_; (try clear hb); (try clear hb2); (try clear hk); (try clear hi); (try clear ho0); obtain ⟨Ao21, co21, eo21⟩ := Kd.R_slice HO1180.out; subst eo21; obtain ⟨Ao22, co22, eo22⟩ := Kd.R_slice HO1183.out; subst eo22) | ((with_reducible refine xj_' (f := 59) rfl ?_); refine goesL_ (some 42) rfl rfl Try.func59 (by kernel_rfl) rfl #[.slice Ao21 t1178.length co21, .slice Ao22 t1181.length co22] rfl (by (try simp only [xm_', xc_', xn_']); first | done | rfl | (simp only [xd_', xt_']; rfl)) ?_; (with_reducible refine (impl_PlayScore.calls k _ _ t1178 _ _ t1181 t1184 t1185 _ ?side1 ?side2 ?side3 ?side4 A12.out).mono ?_); (case side1 => repeat (first | exact (xr_' HO1180.out).2.2 | (with_reducible refine xg_' ?_ _) | (with_reducible refine xe_' ?_ _) | (with_reducible refine xf_' ?_))); (case side2 => exact (xr_' HO1180.out).2.1); (case side3 => repeat (first | exact (xr_' HO1183.out).2.2 | (with_reducible refine xg_' ?_ _) | (with_reducible refine xe_' ?_ _) | (with_reducible refine xf_' ?_))); (case side4 => exact (xr_' HO1183.out).2.1); rintro e w23 ⟨v1186, rfl, ho0, hb⟩; refine ⟨_, rfl, ?_⟩; have n0_ := sk_' (xb_' (by (with_reducible repeat (first | apply ra_' | apply rn_' | apply rd1_')); exact HO1170.out) hb); have n1_ := sk_' (xb_' (by (with_reducible repeat (first | apply ra_' | apply rn_' | apply rd1_')); exact HO1173.out) hb); have n2_ := sk_' (Kd.R_elder' (by (with_reducible repeat (first | apply ra_' | apply rn_' | apply rd1_')); exact HO1177.out) (Kd.R_base ho0) hb); have n3_ := sk_' (xb_' (by (with_reducible repeat (first | apply ra_' | apply rn_' | apply rd1_')); exact HO1180.out) hb); have n4_ := sk_' (xb_' (by (with_reducible repeat (first | apply ra_' | apply rn_' | apply rd1_')); exact HO1183.out) hb); have n5_ := sk_' (Kd.R_lower (Kd.R_new' ho0 (Kd.R_lt (by (with_reducible repeat (first | apply ra_' | apply rn_' | apply rd1_')); exact HO1177.out))) (ps_' (by repeat (first | (with_reducible first | exact HB.out | apply pa_' | apply pn_' | apply pd_') | exact HB.out)))); have n6_ := sk_' (pp_' (by repeat (first | (with_reducible first | exact HB.out | apply pa_' | apply pn_' | apply pd_') | exact HB.out)) hb); clear HO1170; clear HO1173; clear HO1177; clear HO1180; clear HO1183; clear HB; have HO1170 := n0_; have HO1173 := n1_; have HO1177 := n2_; have HO1180 := n3_; have HO1183 := n4_; have HO1187 := n5_; have HB := n6_; clear n0_ n1_ n2_ n3_ n4_ n5_ n6_; (try clear hb); (try clear hb2); (try clear hk); (try clear hi); (try clear ho0)))
 (try simp only [Act.put, sa_', sz_', sc_'])
 go_cut [53] (fun v53 wc => ∃ (kq : Nat) (x53_12 : Bool), v53 = .bool x53_12 ∧ Aside0 (laws_FnExactPlayScore.j0 kq l0 l1 t1174 t1175 t1178 t1181 t1184 t1185 x53_12 = some r) ∧ Aside0 (kq ≤ k) ∧ Aside0 (Kd.R k109 109 wc w.heap.size (fun k_ => some k_ ≠ (v1186 : Value).ownBlock) v1176 t1174) ∧ Aside0 (Kd.R k118 118 wc w.heap.size (fun _ => True) (.slice Ao21 t1178.length co21) t1178) ∧ Aside0 (Kd.R k140 140 wc w.heap.size (fun _ => True) (.slice Ao22 t1181.length co22) t1181) ∧ Aside0 (Kd.R k109 109 wc w.heap.size (fun k_ => some k_ ≠ (v1176 : Value).ownBlock) v1186 t1184) ∧ Aside0 (Below w.heap.size w wc))
 case first =>
  have H := HC13.out
  clear HC13
  replace H := bs_' H
  obtain ⟨t1188, A240, H⟩ := H
  try dsimp only at H
  have A24 := sk_' A240
  clear A240
  by_cases c25 : t1188 = true
  ·
   subst c25
   rw [if_pos rfl] at H
   have H' := sk_' H
   clear H
   obtain ⟨Ao26, co26, eo26⟩ := Kd.R_slice HO1187.out
   subst eo26
   obtain ⟨Ao27, co27, eo27⟩ := Kd.R_slice HO1177.out
   subst eo27
   go_wp2_with (first | ((with_reducible refine xj_' (f := 28) rfl ?_); refine goesL_ (some 47) rfl rfl Try.func28 (by kernel_rfl) rfl #[.slice Ao26 t1184.length co26, .slice Ao27 t1174.length co27] rfl (by (try simp only [xm_', xc_', xn_']); first | done | rfl | (simp only [xd_', xt_']; rfl)) ?_; (with_reducible refine (laws_eqPlayedS.calls k _ _ t1184 _ _ t1174 true _ ?side1 ?side2 ?side3 ?side4 A24.out).mono ?_); (case side1 => repeat (first | exact (xr_' HO1187.out).2.2 | (with_reducible refine xg_' ?_ _) | (with_reducible refine xe_' ?_ _) | (with_reducible refine xf_' ?_))); (case side2 => exact (xr_' HO1187.out).2.1); (case side3 => repeat (first | exact (xr_' HO1177.out).2.2 | (with_reducible refine xg_' ?_ _) | (with_reducible refine xe_' ?_ _) | (with_reducible refine xf_' ?_))); (case side4 => exact (xr_' HO1177.out).2.1); rintro e w28 ⟨rfl, hb⟩; refine ⟨_, rfl, ?_⟩; have n0_ := sk_' (xb_' (by (with_reducible repeat (first | apply ra_' | apply rn_' | apply rd1_')); exact HO1170.out) hb); have n1_ := sk_' (xb_' (by (with_reducible repeat (first | apply ra_' | apply rn_' | apply rd1_')); exact HO1173.out) hb); have n2_ := sk_' (xb_' (by (with_reducible repeat (first | apply ra_' | apply rn_' | apply rd1_')); exact HO1177.out) hb); have n3_ := sk_' (xb_' (by (with_reducible repeat (first | apply ra_' | apply rn_' | apply rd1_')); exact HO1180.out) hb); have n4_ := sk_' (xb_' (by (with_reducible repeat (first | apply ra_' | apply rn_' | apply rd1_')); exact HO1183.out) hb); have n5_ := sk_' (xb_' (by (with_reducible repeat (first | apply ra_' | apply rn_' | apply rd1_')); exact HO1187.out) hb); have n6_ := sk_' (pp_' (by repeat (first | (with_reducible first | exact HB.out | apply pa_' | apply pn_' | apply pd_') | exact HB.out)) hb); clear HO1170; clear HO1173; clear HO1177; clear HO1180; clear HO1183; clear HO1187; clear HB; have HO1170 := n0_; have HO1173 := n1_; have HO1177 := n2_; have HO1180 := n3_; have HO1183 := n4_; have HO1187 := n5_; have HB := n6_; clear n0_ n1_ n2_ n3_ n4_ n5_ n6_; (try clear hb); (try clear hb2); (try clear hk); (try clear hi)))
   go_meet
   case rel => exact ⟨_, ((t1185 != t1175)), (by first | rfl | (simp; done) | (simp [*]; done)), H', ⟨by first | omega | exact Nat.le_refl _⟩, ⟨by (with_reducible repeat (first | apply ra_' | apply rn_' | apply rd1_')); exact xi_' HO1177.out (fun _ hk => hk.2)⟩, ⟨by (with_reducible repeat (first | apply ra_' | apply rn_' | apply rd1_')); exact xi_' HO1180.out (fun _ hk => trivial)⟩, ⟨by (with_reducible repeat (first | apply ra_' | apply rn_' | apply rd1_')); exact xi_' HO1183.out (fun _ hk => trivial)⟩, ⟨by (with_reducible repeat (first | apply ra_' | apply rn_' | apply rd1_')); exact xi_' HO1187.out (fun _ hk => hk.2)⟩, ⟨by repeat (first | (with_reducible first | exact HB.out | apply pa_' | apply pn_' | apply pd_') | exact HB.out)⟩⟩
  replace c25 := Bool.eq_false_iff.mpr c25
  subst c25
  rw [if_neg (show ¬ (false = true) by decide)] at H
  have H' := sk_' H
  clear H
  obtain ⟨Ao29, co29, eo29⟩ := Kd.R_slice HO1187.out
  subst eo29
  obtain ⟨Ao30, co30, eo30⟩ := Kd.R_slice HO1177.out
  subst eo30
  go_wp2_with (first | ((with_reducible refine xj_' (f := 28) rfl ?_); refine goesL_ (some 47) rfl rfl Try.func28 (by kernel_rfl) rfl #[.slice Ao29 t1184.length co29, .slice Ao30 t1174.length co30] rfl (by (try simp only [xm_', xc_', xn_']); first | done | rfl | (simp only [xd_', xt_']; rfl)) ?_; (with_reducible refine (laws_eqPlayedS.calls k _ _ t1184 _ _ t1174 false _ ?side1 ?side2 ?side3 ?side4 A24.out).mono ?_); (case side1 => repeat (first | exact (xr_' HO1187.out).2.2 | (with_reducible refine xg_' ?_ _) | (with_reducible refine xe_' ?_ _) | (with_reducible refine xf_' ?_))); (case side2 => exact (xr_' HO1187.out).2.1); (case side3 => repeat (first | exact (xr_' HO1177.out).2.2 | (with_reducible refine xg_' ?_ _) | (with_reducible refine xe_' ?_ _) | (with_reducible refine xf_' ?_))); (case side4 => exact (xr_' HO1177.out).2.1); rintro e w31 ⟨rfl, hb⟩; refine ⟨_, rfl, ?_⟩; have n0_ := sk_' (xb_' (by (with_reducible repeat (first | apply ra_' | apply rn_' | apply rd1_')); exact HO1170.out) hb); have n1_ := sk_' (xb_' (by (with_reducible repeat (first | apply ra_' | apply rn_' | apply rd1_')); exact HO1173.out) hb); have n2_ := sk_' (xb_' (by (with_reducible repeat (first | apply ra_' | apply rn_' | apply rd1_')); exact HO1177.out) hb); have n3_ := sk_' (xb_' (by (with_reducible repeat (first | apply ra_' | apply rn_' | apply rd1_')); exact HO1180.out) hb); have n4_ := sk_' (xb_' (by (with_reducible repeat (first | apply ra_' | apply rn_' | apply rd1_')); exact HO1183.out) hb); have n5_ := sk_' (xb_' (by (with_reducible repeat (first | apply ra_' | apply rn_' | apply rd1_')); exact HO1187.out) hb); have n6_ := sk_' (pp_' (by repeat (first | (with_reducible first | exact HB.out | apply pa_' | apply pn_' | apply pd_') | exact HB.out)) hb); clear HO1170; clear HO1173; clear HO1177; clear HO1180; clear HO1183; clear HO1187; clear HB; have HO1170 := n0_; have HO1173 := n1_; have HO1177 := n2_; have HO1180 := n3_; have HO1183 := n4_; have HO1187 := n5_; have HB := n6_; clear n0_ n1_ n2_ n3_ n4_ n5_ n6_; (try clear hb); (try clear hb2); (try clear hk); (try clear hi)))
  go_meet
  case rel => exact ⟨_, (true), (by first | rfl | (simp; done) | (simp [*]; done)), H', ⟨by first | omega | exact Nat.le_refl _⟩, ⟨by (with_reducible repeat (first | apply ra_' | apply rn_' | apply rd1_')); exact xi_' HO1177.out (fun _ hk => hk.2)⟩, ⟨by (with_reducible repeat (first | apply ra_' | apply rn_' | apply rd1_')); exact xi_' HO1180.out (fun _ hk => trivial)⟩, ⟨by (with_reducible repeat (first | apply ra_' | apply rn_' | apply rd1_')); exact xi_' HO1183.out (fun _ hk => trivial)⟩, ⟨by (with_reducible repeat (first | apply ra_' | apply rn_' | apply rd1_')); exact xi_' HO1187.out (fun _ hk => hk.2)⟩, ⟨by repeat (first | (with_reducible first | exact HB.out | apply pa_' | apply pn_' | apply pd_') | exact HB.out)⟩⟩
 case rest =>
  clear HC13
  try clear c1
  try clear c2
  try clear p2
  try clear c4
  try clear c4b0
  try clear c5
  try clear c6
  try clear c6b0
  try clear c12
  try clear c25
  try clear c28
  obtain ⟨kq, x53_12, rfl, HA, HJ12, HO_6, HO_8, HO_9, HO_10, HB⟩ := hcut
  cases kq with
  | zero => exact absurd HA.out (by simp [laws_FnExactPlayScore.j0])
  | succ kj12 =>
   have H := HA.out
   clear HA
   simp only [laws_FnExactPlayScore.j0] at H
   by_cases c32 : x53_12 = true
   ·
    subst c32
    rw [if_pos rfl] at H
    obtain rfl := Option.some.inj H
    go_wp2
    go_ret
    exact ⟨rfl, bm HB⟩
   replace c32 := Bool.eq_false_iff.mpr c32
   subst c32
   rw [if_neg (show ¬ (false = true) by decide)] at H
   replace H := bs_' H
   obtain ⟨t1189, A330, H⟩ := H
   try dsimp only at H
   have A33 := sk_' A330
   clear A330
   replace H := bs_' H
   obtain ⟨t1192, A340, H⟩ := H
   try dsimp only at H
   have A34 := sk_' A340
   clear A340
   by_cases c35 : t1192 = true
   ·
    subst c35
    rw [if_pos rfl] at H
    replace H := bs_' H
    obtain ⟨t1193, A360, H⟩ := H
    try dsimp only at H
    have A36 := sk_' A360
    clear A360
    replace H := bs_' H
    obtain ⟨t1196, A370, H⟩ := H
    try dsimp only at H
    have A37 := sk_' A370
    clear A370
    by_cases c38 : t1196 = true
    ·
     subst c38
     rw [if_pos rfl] at H
     replace H := bs_' H
     obtain ⟨⟨t1197, t1198⟩, A390, H⟩ := H
     try dsimp only at H
     have A39 := sk_' A390
     clear A390
     replace H := bs_' H
     obtain ⟨⟨t1199, t1200⟩, A400, H⟩ := H
     try dsimp only at H
     have A40 := sk_' A400
     clear A400
     have HC41 := sk_' H
     clear H
     go_upto_region 21 with (first | ((with_reducible refine xj_' (f := 48) rfl ?_); refine goesL_ (some 56) rfl rfl Try.func48 (by kernel_rfl) rfl #[.slice A0 l0.length c0] rfl (by (try simp only [xm_', xc_', xn_']); first | done | rfl | (simp only [xd_', xt_']; rfl)) ?_; (with_reducible refine (laws_toEventS.calls kj12 _ _ l0 t1189 _ ?side1 ?side2 A33.out).mono ?_); (case side1 => repeat (first | exact (Kd.C_below HR0.out HB.out) | (with_reducible refine xg_' ?_ _) | (with_reducible refine xe_' ?_ _) | (with_reducible refine xf_' ?_))); (case side2 => exact HC0.out); rintro e w42 ⟨v1190, rfl, ho0, hb⟩; refine ⟨_, rfl, ?_⟩; have n0_ := sk_' (xb_' (by (with_reducible repeat (first | apply ra_' | apply rn_' | apply rd1_')); exact HO_6.out) hb); have n1_ := sk_' (Kd.R_elder' (by (with_reducible repeat (first | apply ra_' | apply rn_' | apply rd1_')); exact HO_8.out) (Kd.R_base ho0) hb); have n2_ := sk_' (xb_' (by (with_reducible repeat (first | apply ra_' | apply rn_' | apply rd1_')); exact HO_9.out) hb); have n3_ := sk_' (xb_' (by (with_reducible repeat (first | apply ra_' | apply rn_' | apply rd1_')); exact HO_10.out) hb); have n4_ := sk_' (Kd.R_lower (Kd.R_new' ho0 (Kd.R_lt (by (with_reducible repeat (first | apply ra_' | apply rn_' | apply rd1_')); exact HO_8.out))) (ps_' (by repeat (first | (with_reducible first | exact HB.out | apply pa_' | apply pn_' | apply pd_') | exact HB.out)))); have n5_ := sk_' (pp_' (by repeat (first | (with_reducible first | exact HB.out | apply pa_' | apply pn_' | apply pd_') | exact HB.out)) hb); clear HO_6; clear HO_8; clear HO_9; clear HO_10; clear HB; have HO_6 := n0_; have HO_8 := n1_; have HO_9 := n2_; have HO_10 := n3_; have HO1191 := n4_; have HB := n5_; clear n0_ n1_ n2_ n3_ n4_ n5_; (try clear hb); (try clear hb2); (try clear hk); (try clear hi); (try clear ho0); obtain ⟨Ao43, co43, eo43⟩ := Kd.R_slice HO1191.out; subst eo43) | ((with_reducible refine xj_' (f := 41) rfl ?_); refine goesL_ (some 57) rfl rfl Try.func41 (by kernel_rfl) rfl #[.slice Ao21 t1178.length co21, .slice Ao43 t1189.length co43] rfl (by (try simp only [xm_', xc_', xn_']); first | done | rfl | (simp only [xd_', xt_']; rfl)) ?_; (with_reducible refine (laws_eqEventS.calls kj12 _ _ t1178 _ _ t1189 true _ ?side1 ?side2 ?side3 ?side4 A34.out).mono ?_); (case side1 => repeat (first | exact (xr_' HO_8.out).2.2 | (with_reducible refine xg_' ?_ _) | (with_reducible refine xe_' ?_ _) | (with_reducible refine xf_' ?_))); (case side2 => exact (xr_' HO_8.out).2.1); (case side3 => repeat (first | exact (xr_' HO1191.out).2.2 | (with_reducible refine xg_' ?_ _) | (with_reducible refine xe_' ?_ _) | (with_reducible refine xf_' ?_))); (case side4 => exact (xr_' HO1191.out).2.1); rintro e w44 ⟨rfl, hb⟩; refine ⟨_, rfl, ?_⟩; have n0_ := sk_' (xb_' (by (with_reducible repeat (first | apply ra_' | apply rn_' | apply rd1_')); exact HO_6.out) hb); have n1_ := sk_' (xb_' (by (with_reducible repeat (first | apply ra_' | apply rn_' | apply rd1_')); exact HO_8.out) hb); have n2_ := sk_' (xb_' (by (with_reducible repeat (first | apply ra_' | apply rn_' | apply rd1_')); exact HO_9.out) hb); have n3_ := sk_' (xb_' (by (with_reducible repeat (first | apply ra_' | apply rn_' | apply rd1_')); exact HO_10.out) hb); have n4_ := sk_' (xb_' (by (with_reducible repeat (first | apply ra_' | apply rn_' | apply rd1_')); exact HO1191.out) hb); have n5_ := sk_' (pp_' (by repeat (first | (with_reducible first | exact HB.out | apply pa_' | apply pn_' | apply pd_') | exact HB.out)) hb); clear HO_6; clear HO_8; clear HO_9; clear HO_10; clear HO1191; clear HB; have HO_6 := n0_; have HO_8 := n1_; have HO_9 := n2_; have HO_10 := n3_; have HO1191 := n4_; have HB := n5_; clear n0_ n1_ n2_ n3_ n4_ n5_; (try clear hb); (try clear hb2); (try clear hk); (try clear hi)) | ((with_reducible refine xj_' (f := 58) rfl ?_); refine goesL_ (some 61) rfl rfl Try.func58 (by kernel_rfl) rfl #[.slice A1 l1.length c1] rfl (by (try simp only [xm_', xc_', xn_']); first | done | rfl | (simp only [xd_', xt_']; rfl)) ?_; (with_reducible refine (laws_toTempoS.calls kj12 _ _ l1 t1193 _ ?side1 ?side2 A36.out).mono ?_); (case side1 => repeat (first | exact (Kd.C_below HR1.out HB.out) | (with_reducible refine xg_' ?_ _) | (with_reducible refine xe_' ?_ _) | (with_reducible refine xf_' ?_))); (case side2 => exact HC1.out); rintro e w45 ⟨v1194, rfl, ho0, hb⟩; refine ⟨_, rfl, ?_⟩; have n0_ := sk_' (xb_' (by (with_reducible repeat (first | apply ra_' | apply rn_' | apply rd1_')); exact HO_6.out) hb); have n1_ := sk_' (xb_' (by (with_reducible repeat (first | apply ra_' | apply rn_' | apply rd1_')); exact HO_8.out) hb); have n2_ := sk_' (Kd.R_elder' (by (with_reducible repeat (first | apply ra_' | apply rn_' | apply rd1_')); exact HO_9.out) (Kd.R_base ho0) hb); have n3_ := sk_' (xb_' (by (with_reducible repeat (first | apply ra_' | apply rn_' | apply rd1_')); exact HO_10.out) hb); have n4_ := sk_' (xb_' (by (with_reducible repeat (first | apply ra_' | apply rn_' | apply rd1_')); exact HO1191.out) hb); have n5_ := sk_' (Kd.R_lower (Kd.R_new' ho0 (Kd.R_lt (by (with_reducible repeat (first | apply ra_' | apply rn_' | apply rd1_')); exact HO_9.out))) (ps_' (by repeat (first | (with_reducible first | exact HB.out | apply pa_' | apply pn_' | apply pd_') | exact HB.out)))); have n6_ := sk_' (pp_' (by repeat (first | (with_reducible first | exact HB.out | apply pa_' | apply pn_' | apply pd_') | exact HB.out)) hb); clear HO_6; clear HO_8; clear HO_9; clear HO_10; clear HO1191; clear HB; have HO_6 := n0_; have HO_8 := n1_; have HO_9 := n2_; have HO_10 := n3_; have HO1191 := n4_; have HO1195 := n5_; have HB := n6_; clear n0_ n1_ n2_ n3_ n4_ n5_ n6_; (try clear hb); (try clear hb2); (try clear hk); (try clear hi); (try clear ho0); obtain ⟨Ao46, co46, eo46⟩ := Kd.R_slice HO1195.out; subst eo46) | ((with_reducible refine xj_' (f := 60) rfl ?_); refine goesL_ (some 62) rfl rfl Try.func60 (by kernel_rfl) rfl #[.slice Ao22 t1181.length co22, .slice Ao46 t1193.length co46] rfl (by (try simp only [xm_', xc_', xn_']); first | done | rfl | (simp only [xd_', xt_']; rfl)) ?_; (with_reducible refine (laws_eqTempoS.calls kj12 _ _ t1181 _ _ t1193 true _ ?side1 ?side2 ?side3 ?side4 A37.out).mono ?_); (case side1 => repeat (first | exact (xr_' HO_9.out).2.2 | (with_reducible refine xg_' ?_ _) | (with_reducible refine xe_' ?_ _) | (with_reducible refine xf_' ?_))); (case side2 => exact (xr_' HO_9.out).2.1); (case side3 => repeat (first | exact (xr_' HO1195.out).2.2 | (with_reducible refine xg_' ?_ _) | (with_reducible refine xe_' ?_ _) | (with_reducible refine xf_' ?_))); (case side4 => exact (xr_' HO1195.out).2.1); rintro e w47 ⟨rfl, hb⟩; refine ⟨_, rfl, ?_⟩; have n0_ := sk_' (xb_' (by (with_reducible repeat (first | apply ra_' | apply rn_' | apply rd1_')); exact HO_6.out) hb); have n1_ := sk_' (xb_' (by (with_reducible repeat (first | apply ra_' | apply rn_' | apply rd1_')); exact HO_8.out) hb); have n2_ := sk_' (xb_' (by (with_reducible repeat (first | apply ra_' | apply rn_' | apply rd1_')); exact HO_9.out) hb); have n3_ := sk_' (xb_' (by (with_reducible repeat (first | apply ra_' | apply rn_' | apply rd1_')); exact HO_10.out) hb); have n4_ := sk_' (xb_' (by (with_reducible repeat (first | apply ra_' | apply rn_' | apply rd1_')); exact HO1191.out) hb); have n5_ := sk_' (xb_' (by (with_reducible repeat (first | apply ra_' | apply rn_' | apply rd1_')); exact HO1195.out) hb); have n6_ := sk_' (pp_' (by repeat (first | (with_reducible first | exact HB.out | apply pa_' | apply pn_' | apply pd_') | exact HB.out)) hb); clear HO_6; clear HO_8; clear HO_9; clear HO_10; clear HO1191; clear HO1195; clear HB; have HO_6 := n0_; have HO_8 := n1_; have HO_9 := n2_; have HO_10 := n3_; have HO1191 := n4_; have HO1195 := n5_; have HB := n6_; clear n0_ n1_ n2_ n3_ n4_ n5_ n6_; (try clear hb); (try clear hb2); (try clear hk); (try clear hi)) | ((with_reducible refine xj_' (f := 44) rfl ?_); refine goesL_ (some 66) rfl rfl Try.func44 (by kernel_rfl) rfl #[.slice Ao21 t1178.length co21, .int .i64 1] rfl (by (try simp only [xm_', xc_', xn_']); first | done | rfl | (simp only [xd_', xt_']; rfl)) ?_; (with_reducible refine (laws_markEventS.calls kj12 (fun k_ => some k_ = (.slice Ao21 t1178.length co21 : Value).ownBlock) (.slice Ao21 t1178.length co21) t1178 1 t1197 t1198 w _ ?side1 ?side2 A39.out).mono ?_); (case side1 => repeat (first | (with_reducible first | exact HB.out | apply pa_' | apply pn_' | apply pd_') | exact HB.out)); (case side2 => exact Kd.R_tight rfl HO_8.out); rintro e w48 ⟨rfl, hy0, hb, hkp⟩; refine ⟨_, rfl, ?_⟩; have n0_ := sk_' (xi_' (ok' := fun k_ => some k_ ≠ (v1186 : Value).ownBlock) (Kd.R_keptB ((Kd.R_apart' HO_6.out (Kd.R_typed HO_8.out) (by decide))) hkp (fun k_ hk_ hs_ => (hk_.2) hs_)) (fun k_ hk_ => hk_.1.1)); have n1_ := sk_' (Kd.R_reok rfl hy0 (fun k_ e_ => HO_8.out.1 k_ e_)); have n2_ := sk_' (xi_' (ok' := fun k_ => some k_ ≠ (.slice Ao46 t1193.length co46 : Value).ownBlock) (Kd.R_keptB ((Kd.R_apart' HO_9.out (Kd.R_typed HO_8.out) (by decide))) hkp (fun k_ hk_ hs_ => (hk_.2) hs_)) (fun k_ hk_ => hk_.1.1.2)); have n3_ := sk_' (xi_' (ok' := fun k_ => some k_ ≠ (v1176 : Value).ownBlock) (Kd.R_keptB ((Kd.R_apart' HO_10.out (Kd.R_typed HO_8.out) (by decide))) hkp (fun k_ hk_ hs_ => (hk_.2) hs_)) (fun k_ hk_ => hk_.1.1)); have n4_ := sk_' (xi_' (ok' := fun k_ => some k_ ≠ (.slice Ao21 t1178.length co21 : Value).ownBlock) (Kd.R_keptB (HO1191.out) hkp (fun k_ hk_ hs_ => (hk_.2) hs_)) (fun k_ hk_ => hk_.1.2)); have n5_ := sk_' (xi_' (ok' := fun k_ => some k_ ≠ (.slice Ao22 t1181.length co22 : Value).ownBlock) (Kd.R_keptB ((Kd.R_apart' HO1195.out (Kd.R_typed HO_8.out) (by decide))) hkp (fun k_ hk_ hs_ => (hk_.2) hs_)) (fun k_ hk_ => hk_.1.1.2)); have n6_ := sk_' (hb); clear HO_6; clear HO_8; clear HO_9; clear HO_10; clear HO1191; clear HO1195; clear HB; have HO_6 := n0_; have HO_8 := n1_; have HO_9 := n2_; have HO_10 := n3_; have HO1191 := n4_; have HO1195 := n5_; have HB := n6_; clear n0_ n1_ n2_ n3_ n4_ n5_ n6_; (try clear hb); (try clear hkp); (try clear hy0)) | ((with_reducible refine xj_' (f := 61) rfl ?_); refine goesL_ (some 69) rfl rfl Try.func61 (by kernel_rfl) rfl #[.slice Ao22 t1181.length co22, .int .i64 t1197] rfl (by (try simp only [xm_', xc_', xn_']); first | done | rfl | (simp only [xd_', xt_']; rfl)) ?_; (with_reducible refine (laws_markTempoS.calls kj12 (fun k_ => some k_ = (.slice Ao22 t1181.length co22 : Value).ownBlock) (.slice Ao22 t1181.length co22) t1181 t1197 t1199 t1200 w _ ?side1 ?side2 A40.out).mono ?_); (case side1 => repeat (first | (with_reducible first | exact HB.out | apply pa_' | apply pn_' | apply pd_') | exact HB.out)); (case side2 => exact Kd.R_tight rfl HO_9.out); rintro e w49 ⟨rfl, hy0, hb, hkp⟩; refine ⟨_, rfl, ?_⟩; have n0_ := sk_' (xi_' (ok' := fun k_ => some k_ ≠ (v1186 : Value).ownBlock) (Kd.R_keptB ((Kd.R_apart' HO_6.out (Kd.R_typed HO_9.out) (by decide))) hkp (fun k_ hk_ hs_ => (hk_.2) hs_)) (fun k_ hk_ => hk_.1.1)); have n1_ := sk_' (xi_' (ok' := fun k_ => some k_ ≠ (.slice Ao43 t1189.length co43 : Value).ownBlock) (Kd.R_keptB ((Kd.R_apart' HO_8.out (Kd.R_typed HO_9.out) (by decide))) hkp (fun k_ hk_ hs_ => (hk_.2) hs_)) (fun k_ hk_ => hk_.1.1.2)); have n2_ := sk_' (Kd.R_reok rfl hy0 (fun k_ e_ => HO_9.out.1 k_ e_)); have n3_ := sk_' (xi_' (ok' := fun k_ => some k_ ≠ (v1176 : Value).ownBlock) (Kd.R_keptB ((Kd.R_apart' HO_10.out (Kd.R_typed HO_9.out) (by decide))) hkp (fun k_ hk_ hs_ => (hk_.2) hs_)) (fun k_ hk_ => hk_.1.1)); have n4_ := sk_' (xi_' (ok' := fun k_ => some k_ ≠ (.slice Ao21 t1178.length co21 : Value).ownBlock) (Kd.R_keptB ((Kd.R_apart' HO1191.out (Kd.R_typed HO_9.out) (by decide))) hkp (fun k_ hk_ hs_ => (hk_.2) hs_)) (fun k_ hk_ => hk_.1.1)); have n5_ := sk_' (xi_' (ok' := fun k_ => some k_ ≠ (.slice Ao22 t1181.length co22 : Value).ownBlock) (Kd.R_keptB (HO1195.out) hkp (fun k_ hk_ hs_ => (hk_) hs_)) (fun k_ hk_ => hk_.1)); have n6_ := sk_' (hb); clear HO_6; clear HO_8; clear HO_9; clear HO_10; clear HO1191; clear HO1195; clear HB; have HO_6 := n0_; have HO_8 := n1_; have HO_9 := n2_; have HO_10 := n3_; have HO1191 := n4_; have HO1195 := n5_; have HB := n6_; clear n0_ n1_ n2_ n3_ n4_ n5_ n6_; (try clear hb); (try clear hkp); (try clear hy0)))
     (try simp only [Act.put, sa_', sz_', sc_'])
     go_cut [82] (fun v82 wc => ∃ (kq : Nat) (x82_40 : Bool), v82 = .bool x82_40 ∧ Aside0 (laws_FnExactPlayScore.j1 kq l0 l1 t1174 t1175 t1184 x82_40 = some r) ∧ Aside0 (kq ≤ kj12) ∧ Aside0 (Kd.R k109 109 wc w.heap.size (fun k_ => some k_ ≠ (v1186 : Value).ownBlock) v1176 t1174) ∧ Aside0 (Kd.R k109 109 wc w.heap.size (fun k_ => some k_ ≠ (v1176 : Value).ownBlock) v1186 t1184) ∧ Aside0 (Below w.heap.size w wc))
     case first =>
      have H := HC41.out
      clear HC41
      by_cases c50 : t1199 < 0
      ·
       rw [if_pos c50] at H
       have c50b0 : decide (t1199 < 0) = true := decide_eq_true c50
       clear c50
       (first | rw [c50b0] | (simp only [i64_w, i32_w]; rw [c50b0]) | skip)
       have H' := sk_' H
       clear H
       go_wp2
       go_meet
       case rel => exact ⟨_, (true), (by first | rfl | (simp; done) | (simp [*]; done)), H', ⟨by have := HJ12.out; first | omega | exact Nat.le_refl _⟩, ⟨by (with_reducible repeat (first | apply ra_' | apply rn_' | apply rd1_')); exact HO_6.out⟩, ⟨by (with_reducible repeat (first | apply ra_' | apply rn_' | apply rd1_')); exact HO_10.out⟩, ⟨by repeat (first | (with_reducible first | exact HB.out | apply pa_' | apply pn_' | apply pd_') | exact HB.out)⟩⟩
      rw [if_neg c50] at H
      have c50b0 : decide (t1199 < 0) = false := decide_eq_false c50
      clear c50
      (first | rw [c50b0] | (simp only [i64_w, i32_w]; rw [c50b0]) | skip)
      replace H := bs_' H
      obtain ⟨t1201, A510, H⟩ := H
      try dsimp only at H
      have A51 := sk_' A510
      clear A510
      by_cases c52 : t1201 = true
      ·
       subst c52
       rw [if_pos rfl] at H
       have H' := sk_' H
       clear H
       obtain ⟨Ao53, co53, eo53⟩ := Kd.R_slice HO_10.out
       subst eo53
       obtain ⟨Ao54, co54, eo54⟩ := Kd.R_slice HO_6.out
       subst eo54
       go_wp2_with (first | (go_at_call 28; (with_reducible refine (laws_eqPlayedS.calls kj12 _ _ t1184 _ _ t1174 true _ ?side1 ?side2 ?side3 ?side4 A51.out).mono ?_); (case side1 => repeat (first | exact (xr_' HO_10.out).2.2 | (with_reducible refine xg_' ?_ _) | (with_reducible refine xe_' ?_ _) | (with_reducible refine xf_' ?_))); (case side2 => exact (xr_' HO_10.out).2.1); (case side3 => repeat (first | exact (xr_' HO_6.out).2.2 | (with_reducible refine xg_' ?_ _) | (with_reducible refine xe_' ?_ _) | (with_reducible refine xf_' ?_))); (case side4 => exact (xr_' HO_6.out).2.1); rintro e w55 ⟨rfl, hb⟩; have n0_ := sk_' (xb_' (rm HO_6) hb); have n1_ := sk_' (xb_' (rm HO_8) hb); have n2_ := sk_' (xb_' (rm HO_9) hb); have n3_ := sk_' (xb_' (rm HO_10) hb); have n4_ := sk_' (xb_' (rm HO1191) hb); have n5_ := sk_' (xb_' (rm HO1195) hb); have n6_ := sk_' (pp_' (bm HB) hb); clear HO_6; clear HO_8; clear HO_9; clear HO_10; clear HO1191; clear HO1195; clear HB; have HO_6 := n0_; have HO_8 := n1_; have HO_9 := n2_; have HO_10 := n3_; have HO1191 := n4_; have HO1195 := n5_; have HB := n6_; clear n0_ n1_ n2_ n3_ n4_ n5_ n6_; (try clear hb); (try clear hb2); (try clear hk); (try clear hi)))
       go_meet
       case rel => exact ⟨_, ((t1185 != t1175)), rfl, H', ⟨by have := HJ12.out; first | omega | exact Nat.le_refl _⟩, ⟨rm HO_6⟩, ⟨rm HO_10⟩, ⟨bm HB⟩⟩
      replace c52 := Bool.eq_false_iff.mpr c52
      subst c52
      rw [if_neg (show ¬ (false = true) by decide)] at H
      have H' := sk_' H
      clear H
      obtain ⟨Ao56, co56, eo56⟩ := Kd.R_slice HO_10.out
      subst eo56
      obtain ⟨Ao57, co57, eo57⟩ := Kd.R_slice HO_6.out
      subst eo57
      go_wp2_with (first | (go_at_call 28; (with_reducible refine (laws_eqPlayedS.calls kj12 _ _ t1184 _ _ t1174 false _ ?side1 ?side2 ?side3 ?side4 A51.out).mono ?_); (case side1 => repeat (first | exact (xr_' HO_10.out).2.2 | (with_reducible refine xg_' ?_ _) | (with_reducible refine xe_' ?_ _) | (with_reducible refine xf_' ?_))); (case side2 => exact (xr_' HO_10.out).2.1); (case side3 => repeat (first | exact (xr_' HO_6.out).2.2 | (with_reducible refine xg_' ?_ _) | (with_reducible refine xe_' ?_ _) | (with_reducible refine xf_' ?_))); (case side4 => exact (xr_' HO_6.out).2.1); rintro e w58 ⟨rfl, hb⟩; have n0_ := sk_' (xb_' (rm HO_6) hb); have n1_ := sk_' (xb_' (rm HO_8) hb); have n2_ := sk_' (xb_' (rm HO_9) hb); have n3_ := sk_' (xb_' (rm HO_10) hb); have n4_ := sk_' (xb_' (rm HO1191) hb); have n5_ := sk_' (xb_' (rm HO1195) hb); have n6_ := sk_' (pp_' (bm HB) hb); clear HO_6; clear HO_8; clear HO_9; clear HO_10; clear HO1191; clear HO1195; clear HB; have HO_6 := n0_; have HO_8 := n1_; have HO_9 := n2_; have HO_10 := n3_; have HO1191 := n4_; have HO1195 := n5_; have HB := n6_; clear n0_ n1_ n2_ n3_ n4_ n5_ n6_; (try clear hb); (try clear hb2); (try clear hk); (try clear hi)))
      go_meet
      case rel => exact ⟨_, (true), rfl, H', ⟨by have := HJ12.out; first | omega | exact Nat.le_refl _⟩, ⟨rm HO_6⟩, ⟨rm HO_10⟩, ⟨bm HB⟩⟩
     case rest =>
      clear HC41
      try clear c1
      try clear c2
      try clear p2
      try clear c3
      try clear c4
      try clear c4b0
      try clear c5
      try clear c6
      try clear c6b0
      try clear c12
      try clear c25
      try clear c28
      try clear c32
      try clear c35
      try clear c38
      try clear c41
      try clear c44
      try clear c46
      try clear c48
      try clear c50
      try clear c50b0
      try clear c52
      try clear c56
      try clear c57
      try clear c58
      try clear p2
      obtain ⟨kq, x82_40, rfl, HA, HJ40, HO_6, HO_10, HB⟩ := hcut
      cases kq with
      | zero => exact absurd HA.out (by simp [laws_FnExactPlayScore.j1])
      | succ kj40 =>
       have H := HA.out
       clear HA
       simp only [laws_FnExactPlayScore.j1] at H
       by_cases c59 : x82_40 = true
       ·
        subst c59
        rw [if_pos rfl] at H
        obtain rfl := Option.some.inj H
        go_wp2
        go_ret
        exact ⟨by first | rfl | (simp [errW_none, errW_some] <;> rfl) | (simp [*, errW_none, errW_some] <;> rfl), by repeat (first | (with_reducible first | exact HB.out | apply pa_' | apply pn_' | apply pd_') | exact HB.out)⟩
       replace c59 := Bool.eq_false_iff.mpr c59
       subst c59
       rw [if_neg (show ¬ (false = true) by decide)] at H
       replace H := bs_' H
       obtain ⟨⟨t1202, t1203⟩, A600, H⟩ := H
       try dsimp only at H
       have A60 := sk_' A600
       clear A600
       replace H := bs_' H
       obtain ⟨t1204, A610, H⟩ := H
       try dsimp only at H
       have A61 := sk_' A610
       clear A610
       by_cases c62 : t1204 < 0
       ·
        rw [if_pos c62] at H
        have c62b0 : decide (t1204 < 0) = true := decide_eq_true c62
        clear c62
        obtain rfl := Option.some.inj H
        obtain ⟨Ao63, co63, eo63⟩ := Kd.R_slice HO_10.out
        subst eo63
        go_wp2_with (first | ((with_reducible refine xj_' (f := 29) rfl ?_); refine goesL_ (some 85) rfl rfl Try.func29 (by kernel_rfl) rfl #[.slice Ao63 t1184.length co63, .int .i64 1] rfl (by (try simp only [xm_', xc_', xn_']); first | done | rfl | (simp only [xd_', xt_']; rfl)) ?_; (with_reducible refine (laws_markPlayedS.calls kj40 (fun k_ => some k_ = (.slice Ao63 t1184.length co63 : Value).ownBlock) (.slice Ao63 t1184.length co63) t1184 1 t1202 t1203 w _ ?side1 ?side2 A60.out).mono ?_); (case side1 => repeat (first | (with_reducible first | exact HB.out | apply pa_' | apply pn_' | apply pd_') | exact HB.out)); (case side2 => exact Kd.R_tight rfl HO_10.out); rintro e w64 ⟨rfl, hy0, hb, hkp⟩; refine ⟨_, rfl, ?_⟩; have n0_ := sk_' (xi_' (ok' := fun k_ => some k_ ≠ (.slice Ao63 t1184.length co63 : Value).ownBlock) (Kd.R_keptB (HO_6.out) hkp (fun k_ hk_ hs_ => (hk_) hs_)) (fun k_ hk_ => hk_.1)); have n1_ := sk_' (Kd.R_reok rfl hy0 (fun k_ e_ => HO_10.out.1 k_ e_)); have n2_ := sk_' (hb); clear HO_6; clear HO_10; clear HB; have HO_6 := n0_; have HO_10 := n1_; have HB := n2_; clear n0_ n1_ n2_; (try clear hb); (try clear hkp); (try clear hy0)) | ((with_reducible refine xj_' (f := 36) rfl ?_); refine goesL_ (some 88) rfl rfl Try.func36 (by kernel_rfl) rfl #[.slice Ao63 t1203.length co63, .int .i64 1] rfl (by (try simp only [xm_', xc_', xn_']); first | done | (rw [show t1203.length = t1184.length from (xr_' HO_10.out).1.symm] <;> rfl) | rfl | (simp only [xd_', xt_']; rfl)) ?_; (with_reducible refine (laws_heldPlayedS.calls kj40 _ _ t1203 1 t1204 _ ?side1 ?side2 A61.out).mono ?_); (case side1 => repeat (first | exact (xr_' HO_10.out).2.2 | (with_reducible refine xg_' ?_ _) | (with_reducible refine xe_' ?_ _) | (with_reducible refine xf_' ?_))); (case side2 => rw [show t1203.length = t1184.length from (xr_' HO_10.out).1.symm]; exact (xr_' HO_10.out).2.1); rintro e w' ⟨rfl, ⟨nd, rfl⟩⟩; refine ⟨_, rfl, ?_⟩))
        go_ret
        exact ⟨by first | rfl | (simp [errW_none, errW_some] <;> rfl) | (simp [*, errW_none, errW_some] <;> rfl), by repeat (first | (with_reducible first | exact HB.out | apply pa_' | apply pn_' | apply pd_') | exact HB.out)⟩
       rw [if_neg c62] at H
       have c62b0 : decide (t1204 < 0) = false := decide_eq_false c62
       clear c62
       by_cases c65 : t1204 = t1202
       ·
        rw [if_pos c65] at H
        have c65b0 : (t1204 == t1202) = true := beq_iff_eq.mpr c65
        have c65b1 : (t1204 != t1202) = false := bne_eq_false_iff_eq.mpr c65
        clear c65
        replace H := bs_' H
        obtain ⟨t1205, A660, H⟩ := H
        try dsimp only at H
        have A66 := sk_' A660
        clear A660
        replace H := bs_' H
        obtain ⟨t1208, A670, H⟩ := H
        try dsimp only at H
        have A67 := sk_' A670
        clear A670
        replace H := bs_' H
        obtain ⟨⟨t1211, t1212⟩, A680, H⟩ := H
        try dsimp only at H
        have A68 := sk_' A680
        clear A680
        have HC69 := sk_' H
        clear H
        obtain ⟨Ao70, co70, eo70⟩ := Kd.R_slice HO_10.out
        subst eo70
        go_upto_region 32 with (first | ((with_reducible refine xj_' (f := 29) rfl ?_); refine goesL_ (some 85) rfl rfl Try.func29 (by kernel_rfl) rfl #[.slice Ao70 t1184.length co70, .int .i64 1] rfl (by (try simp only [xm_', xc_', xn_']); first | done | rfl | (simp only [xd_', xt_']; rfl)) ?_; (with_reducible refine (laws_markPlayedS.calls kj40 (fun k_ => some k_ = (.slice Ao70 t1184.length co70 : Value).ownBlock) (.slice Ao70 t1184.length co70) t1184 1 t1202 t1203 w _ ?side1 ?side2 A60.out).mono ?_); (case side1 => repeat (first | (with_reducible first | exact HB.out | apply pa_' | apply pn_' | apply pd_') | exact HB.out)); (case side2 => exact Kd.R_tight rfl HO_10.out); rintro e w71 ⟨rfl, hy0, hb, hkp⟩; refine ⟨_, rfl, ?_⟩; have n0_ := sk_' (xi_' (ok' := fun k_ => some k_ ≠ (.slice Ao70 t1184.length co70 : Value).ownBlock) (Kd.R_keptB (HO_6.out) hkp (fun k_ hk_ hs_ => (hk_) hs_)) (fun k_ hk_ => hk_.1)); have n1_ := sk_' (Kd.R_reok rfl hy0 (fun k_ e_ => HO_10.out.1 k_ e_)); have n2_ := sk_' (hb); clear HO_6; clear HO_10; clear HB; have HO_6 := n0_; have HO_10 := n1_; have HB := n2_; clear n0_ n1_ n2_; (try clear hb); (try clear hkp); (try clear hy0)) | ((with_reducible refine xj_' (f := 36) rfl ?_); refine goesL_ (some 88) rfl rfl Try.func36 (by kernel_rfl) rfl #[.slice Ao70 t1203.length co70, .int .i64 1] rfl (by (try simp only [xm_', xc_', xn_']); first | done | (rw [show t1203.length = t1184.length from (xr_' HO_10.out).1.symm] <;> rfl) | rfl | (simp only [xd_', xt_']; rfl)) ?_; (with_reducible refine (laws_heldPlayedS.calls kj40 _ _ t1203 1 t1204 _ ?side1 ?side2 A61.out).mono ?_); (case side1 => repeat (first | exact (xr_' HO_10.out).2.2 | (with_reducible refine xg_' ?_ _) | (with_reducible refine xe_' ?_ _) | (with_reducible refine xf_' ?_))); (case side2 => rw [show t1203.length = t1184.length from (xr_' HO_10.out).1.symm]; exact (xr_' HO_10.out).2.1); rintro e w' ⟨rfl, ⟨nd, rfl⟩⟩; refine ⟨_, rfl, ?_⟩) | ((with_reducible refine xj_' (f := 48) rfl ?_); refine goesL_ (some 96) rfl rfl Try.func48 (by kernel_rfl) rfl #[.slice A0 l0.length c0] rfl (by (try simp only [xm_', xc_', xn_']); first | done | rfl | (simp only [xd_', xt_']; rfl)) ?_; (with_reducible refine (laws_toEventS.calls kj40 _ _ l0 t1205 _ ?side1 ?side2 A66.out).mono ?_); (case side1 => repeat (first | exact (Kd.C_below HR0.out (by repeat (first | (with_reducible first | exact HB.out | apply pa_' | apply pn_' | apply pd_') | exact HB.out))) | (with_reducible refine xg_' ?_ _) | (with_reducible refine xe_' ?_ _) | (with_reducible refine xf_' ?_))); (case side2 => exact HC0.out); rintro e w72 ⟨v1206, rfl, ho0, hb⟩; refine ⟨_, rfl, ?_⟩; have n0_ := sk_' (xb_' (by (with_reducible repeat (first | apply ra_' | apply rn_' | apply rd1_')); exact HO_6.out) hb); have n1_ := sk_' (xb_' (by (with_reducible repeat (first | apply ra_' | apply rn_' | apply rd1_')); exact HO_10.out) hb); have n2_ := sk_' (Kd.R_lower ho0 (ps_' (by repeat (first | (with_reducible first | exact HB.out | apply pa_' | apply pn_' | apply pd_') | exact HB.out)))); have n3_ := sk_' (pp_' (by repeat (first | (with_reducible first | exact HB.out | apply pa_' | apply pn_' | apply pd_') | exact HB.out)) hb); clear HO_6; clear HO_10; clear HB; have HO_6 := n0_; have HO_10 := n1_; have HO1207 := n2_; have HB := n3_; clear n0_ n1_ n2_ n3_; (try clear hb); (try clear hb2); (try clear hk); (try clear hi); (try clear ho0)) | ((with_reducible refine xj_' (f := 58) rfl ?_); refine goesL_ (some 98) rfl rfl Try.func58 (by kernel_rfl) rfl #[.slice A1 l1.length c1] rfl (by (try simp only [xm_', xc_', xn_']); first | done | rfl | (simp only [xd_', xt_']; rfl)) ?_; (with_reducible refine (laws_toTempoS.calls kj40 _ _ l1 t1208 _ ?side1 ?side2 A67.out).mono ?_); (case side1 => repeat (first | exact (Kd.C_below HR1.out HB.out) | (with_reducible refine xg_' ?_ _) | (with_reducible refine xe_' ?_ _) | (with_reducible refine xf_' ?_))); (case side2 => exact HC1.out); rintro e w73 ⟨v1209, rfl, ho0, hb⟩; refine ⟨_, rfl, ?_⟩; have n0_ := sk_' (xb_' (by (with_reducible repeat (first | apply ra_' | apply rn_' | apply rd1_')); exact HO_6.out) hb); have n1_ := sk_' (xb_' (by (with_reducible repeat (first | apply ra_' | apply rn_' | apply rd1_')); exact HO_10.out) hb); have n2_ := sk_' (xb_' (by (with_reducible repeat (first | apply ra_' | apply rn_' | apply rd1_')); exact HO1207.out) hb); have n3_ := sk_' (Kd.R_lower ho0 (ps_' (by repeat (first | (with_reducible first | exact HB.out | apply pa_' | apply pn_' | apply pd_') | exact HB.out)))); have n4_ := sk_' (pp_' (by repeat (first | (with_reducible first | exact HB.out | apply pa_' | apply pn_' | apply pd_') | exact HB.out)) hb); clear HO_6; clear HO_10; clear HO1207; clear HB; have HO_6 := n0_; have HO_10 := n1_; have HO1207 := n2_; have HO1210 := n3_; have HB := n4_; clear n0_ n1_ n2_ n3_ n4_; (try clear hb); (try clear hb2); (try clear hk); (try clear hi); (try clear ho0); obtain ⟨Ao74, co74, eo74⟩ := Kd.R_slice HO1207.out; subst eo74; obtain ⟨Ao75, co75, eo75⟩ := Kd.R_slice HO1210.out; subst eo75) | ((with_reducible refine xj_' (f := 59) rfl ?_); refine goesL_ (some 99) rfl rfl Try.func59 (by kernel_rfl) rfl #[.slice Ao74 t1205.length co74, .slice Ao75 t1208.length co75] rfl (by (try simp only [xm_', xc_', xn_']); first | done | rfl | (simp only [xd_', xt_']; rfl)) ?_; (with_reducible refine (impl_PlayScore.calls kj40 _ _ t1205 _ _ t1208 t1211 t1212 _ ?side1 ?side2 ?side3 ?side4 A68.out).mono ?_); (case side1 => repeat (first | exact (xr_' HO1207.out).2.2 | (with_reducible refine xg_' ?_ _) | (with_reducible refine xe_' ?_ _) | (with_reducible refine xf_' ?_))); (case side2 => exact (xr_' HO1207.out).2.1); (case side3 => repeat (first | exact (xr_' HO1210.out).2.2 | (with_reducible refine xg_' ?_ _) | (with_reducible refine xe_' ?_ _) | (with_reducible refine xf_' ?_))); (case side4 => exact (xr_' HO1210.out).2.1); rintro e w76 ⟨v1213, rfl, ho0, hb⟩; refine ⟨_, rfl, ?_⟩; have n0_ := sk_' (Kd.R_elder' (by (with_reducible repeat (first | apply ra_' | apply rn_' | apply rd1_')); exact HO_6.out) (Kd.R_base ho0) hb); have n1_ := sk_' (Kd.R_elder' (by (with_reducible repeat (first | apply ra_' | apply rn_' | apply rd1_')); exact HO_10.out) (Kd.R_base ho0) hb); have n2_ := sk_' (xb_' (by (with_reducible repeat (first | apply ra_' | apply rn_' | apply rd1_')); exact HO1207.out) hb); have n3_ := sk_' (xb_' (by (with_reducible repeat (first | apply ra_' | apply rn_' | apply rd1_')); exact HO1210.out) hb); have n4_ := sk_' (Kd.R_lower (Kd.R_new' (Kd.R_new' ho0 (Kd.R_lt (by (with_reducible repeat (first | apply ra_' | apply rn_' | apply rd1_')); exact HO_6.out))) (Kd.R_lt (by (with_reducible repeat (first | apply ra_' | apply rn_' | apply rd1_')); exact HO_10.out))) (ps_' (by repeat (first | (with_reducible first | exact HB.out | apply pa_' | apply pn_' | apply pd_') | exact HB.out)))); have n5_ := sk_' (pp_' (by repeat (first | (with_reducible first | exact HB.out | apply pa_' | apply pn_' | apply pd_') | exact HB.out)) hb); clear HO_6; clear HO_10; clear HO1207; clear HO1210; clear HB; have HO_6 := n0_; have HO_10 := n1_; have HO1207 := n2_; have HO1210 := n3_; have HO1214 := n4_; have HB := n5_; clear n0_ n1_ n2_ n3_ n4_ n5_; (try clear hb); (try clear hb2); (try clear hk); (try clear hi); (try clear ho0)))
        (try simp only [Act.put, sa_', sz_', sc_'])
        go_cut [110] (fun v110 wc => ∃ (kq : Nat) (x110_68 : Bool), v110 = .bool x110_68 ∧ Aside0 (laws_FnExactPlayScore.j2 kq t1203 t1202 x110_68 = some r) ∧ Aside0 (kq ≤ kj40) ∧ Aside0 (Kd.R k109 109 wc w.heap.size (fun _ => True) (.slice Ao70 t1184.length co70) t1203) ∧ Aside0 (Below w.heap.size w wc))
        case first =>
         have H := HC69.out
         clear HC69
         replace H := bs_' H
         obtain ⟨t1215, A770, H⟩ := H
         try dsimp only at H
         have A77 := sk_' A770
         clear A770
         by_cases c78 : t1215 = true
         ·
          subst c78
          rw [if_pos rfl] at H
          have H' := sk_' H
          clear H
          obtain ⟨Ao79, co79, eo79⟩ := Kd.R_slice HO1214.out
          subst eo79
          obtain ⟨Ao80, co80, eo80⟩ := Kd.R_slice HO_6.out
          subst eo80
          go_wp2_with (first | ((with_reducible refine xj_' (f := 28) rfl ?_); refine goesL_ (some 104) rfl rfl Try.func28 (by kernel_rfl) rfl #[.slice Ao79 t1211.length co79, .slice Ao80 t1174.length co80] rfl (by (try simp only [xm_', xc_', xn_']); first | done | rfl | (simp only [xd_', xt_']; rfl)) ?_; (with_reducible refine (laws_eqPlayedS.calls kj40 _ _ t1211 _ _ t1174 true _ ?side1 ?side2 ?side3 ?side4 A77.out).mono ?_); (case side1 => repeat (first | exact (xr_' HO1214.out).2.2 | (with_reducible refine xg_' ?_ _) | (with_reducible refine xe_' ?_ _) | (with_reducible refine xf_' ?_))); (case side2 => exact (xr_' HO1214.out).2.1); (case side3 => repeat (first | exact (xr_' HO_6.out).2.2 | (with_reducible refine xg_' ?_ _) | (with_reducible refine xe_' ?_ _) | (with_reducible refine xf_' ?_))); (case side4 => exact (xr_' HO_6.out).2.1); rintro e w81 ⟨rfl, hb⟩; refine ⟨_, rfl, ?_⟩; have n0_ := sk_' (xb_' (by (with_reducible repeat (first | apply ra_' | apply rn_' | apply rd1_')); exact HO_6.out) hb); have n1_ := sk_' (xb_' (by (with_reducible repeat (first | apply ra_' | apply rn_' | apply rd1_')); exact HO_10.out) hb); have n2_ := sk_' (xb_' (by (with_reducible repeat (first | apply ra_' | apply rn_' | apply rd1_')); exact HO1207.out) hb); have n3_ := sk_' (xb_' (by (with_reducible repeat (first | apply ra_' | apply rn_' | apply rd1_')); exact HO1210.out) hb); have n4_ := sk_' (xb_' (by (with_reducible repeat (first | apply ra_' | apply rn_' | apply rd1_')); exact HO1214.out) hb); have n5_ := sk_' (pp_' (by repeat (first | (with_reducible first | exact HB.out | apply pa_' | apply pn_' | apply pd_') | exact HB.out)) hb); clear HO_6; clear HO_10; clear HO1207; clear HO1210; clear HO1214; clear HB; have HO_6 := n0_; have HO_10 := n1_; have HO1207 := n2_; have HO1210 := n3_; have HO1214 := n4_; have HB := n5_; clear n0_ n1_ n2_ n3_ n4_ n5_; (try clear hb); (try clear hb2); (try clear hk); (try clear hi)))
          go_meet
          case rel => exact ⟨_, ((t1212 != t1175)), (by first | rfl | (simp; done) | (simp [*]; done)), H', ⟨by have := HJ12.out; have := HJ40.out; first | omega | exact Nat.le_refl _⟩, ⟨by (with_reducible repeat (first | apply ra_' | apply rn_' | apply rd1_')); exact xi_' HO_10.out (fun _ hk => trivial)⟩, ⟨by repeat (first | (with_reducible first | exact HB.out | apply pa_' | apply pn_' | apply pd_') | exact HB.out)⟩⟩
         replace c78 := Bool.eq_false_iff.mpr c78
         subst c78
         rw [if_neg (show ¬ (false = true) by decide)] at H
         have H' := sk_' H
         clear H
         obtain ⟨Ao82, co82, eo82⟩ := Kd.R_slice HO1214.out
         subst eo82
         obtain ⟨Ao83, co83, eo83⟩ := Kd.R_slice HO_6.out
         subst eo83
         go_wp2_with (first | ((with_reducible refine xj_' (f := 28) rfl ?_); refine goesL_ (some 104) rfl rfl Try.func28 (by kernel_rfl) rfl #[.slice Ao82 t1211.length co82, .slice Ao83 t1174.length co83] rfl (by (try simp only [xm_', xc_', xn_']); first | done | rfl | (simp only [xd_', xt_']; rfl)) ?_; (with_reducible refine (laws_eqPlayedS.calls kj40 _ _ t1211 _ _ t1174 false _ ?side1 ?side2 ?side3 ?side4 A77.out).mono ?_); (case side1 => repeat (first | exact (xr_' HO1214.out).2.2 | (with_reducible refine xg_' ?_ _) | (with_reducible refine xe_' ?_ _) | (with_reducible refine xf_' ?_))); (case side2 => exact (xr_' HO1214.out).2.1); (case side3 => repeat (first | exact (xr_' HO_6.out).2.2 | (with_reducible refine xg_' ?_ _) | (with_reducible refine xe_' ?_ _) | (with_reducible refine xf_' ?_))); (case side4 => exact (xr_' HO_6.out).2.1); rintro e w84 ⟨rfl, hb⟩; refine ⟨_, rfl, ?_⟩; have n0_ := sk_' (xb_' (by (with_reducible repeat (first | apply ra_' | apply rn_' | apply rd1_')); exact HO_6.out) hb); have n1_ := sk_' (xb_' (by (with_reducible repeat (first | apply ra_' | apply rn_' | apply rd1_')); exact HO_10.out) hb); have n2_ := sk_' (xb_' (by (with_reducible repeat (first | apply ra_' | apply rn_' | apply rd1_')); exact HO1207.out) hb); have n3_ := sk_' (xb_' (by (with_reducible repeat (first | apply ra_' | apply rn_' | apply rd1_')); exact HO1210.out) hb); have n4_ := sk_' (xb_' (by (with_reducible repeat (first | apply ra_' | apply rn_' | apply rd1_')); exact HO1214.out) hb); have n5_ := sk_' (pp_' (by repeat (first | (with_reducible first | exact HB.out | apply pa_' | apply pn_' | apply pd_') | exact HB.out)) hb); clear HO_6; clear HO_10; clear HO1207; clear HO1210; clear HO1214; clear HB; have HO_6 := n0_; have HO_10 := n1_; have HO1207 := n2_; have HO1210 := n3_; have HO1214 := n4_; have HB := n5_; clear n0_ n1_ n2_ n3_ n4_ n5_; (try clear hb); (try clear hb2); (try clear hk); (try clear hi)))
         go_meet
         case rel => exact ⟨_, (true), (by first | rfl | (simp; done) | (simp [*]; done)), H', ⟨by have := HJ12.out; have := HJ40.out; first | omega | exact Nat.le_refl _⟩, ⟨by (with_reducible repeat (first | apply ra_' | apply rn_' | apply rd1_')); exact xi_' HO_10.out (fun _ hk => trivial)⟩, ⟨by repeat (first | (with_reducible first | exact HB.out | apply pa_' | apply pn_' | apply pd_') | exact HB.out)⟩⟩
        case rest =>
         clear HC69
         try clear c1
         try clear c2
         try clear p2
         try clear c3
         try clear c4
         try clear c4b0
         try clear c5
         try clear c6
         try clear c6b0
         try clear c7
         try clear c12
         try clear c25
         try clear c28
         try clear c29
         try clear c32
         try clear c35
         try clear c36
         try clear c38
         try clear c41
         try clear c44
         try clear c46
         try clear c48
         try clear c50
         try clear c50b0
         try clear c52
         try clear c56
         try clear c57
         try clear c58
         try clear c59
         try clear c60
         try clear c61
         try clear c62
         try clear c62b0
         try clear c65
         try clear c65b0
         try clear c65b1
         try clear c78
         try clear p2
         obtain ⟨kq, x110_68, rfl, HA, HJ68, HO_10, HB⟩ := hcut
         have hl10_68 := (xr_' HO_10.out).1
         rw [hl10_68] at HO_10
         (try simp only [hl10_68])
         cases kq with
         | zero => exact absurd HA.out (by simp [laws_FnExactPlayScore.j2])
         | succ kj68 =>
          have H := HA.out
          clear HA
          simp only [laws_FnExactPlayScore.j2] at H
          by_cases c85 : x110_68 = true
          ·
           subst c85
           rw [if_pos rfl] at H
           obtain rfl := Option.some.inj H
           go_wp2
           go_ret
           exact ⟨by first | rfl | (simp [errW_none, errW_some] <;> rfl) | (simp [*, errW_none, errW_some] <;> rfl), by repeat (first | (with_reducible first | exact HB.out | apply pa_' | apply pn_' | apply pd_') | exact HB.out)⟩
          replace c85 := Bool.eq_false_iff.mpr c85
          subst c85
          rw [if_neg (show ¬ (false = true) by decide)] at H
          replace H := bs_' H
          obtain ⟨t1216, A860, H⟩ := H
          try dsimp only at H
          have A86 := sk_' A860
          clear A860
          by_cases c87 : t1216 < 0
          ·
           rw [if_pos c87] at H
           have c87b0 : decide (t1216 < 0) = true := decide_eq_true c87
           clear c87
           obtain rfl := Option.some.inj H
           go_wp2_with (first | ((with_reducible refine xj_' (f := 36) rfl ?_); refine goesL_ (some 113) rfl rfl Try.func36 (by kernel_rfl) rfl #[.slice Ao70 t1203.length co70, .int .i64 1] rfl (by (try simp only [xm_', xc_', xn_']); first | done | rfl | (simp only [xd_', xt_']; rfl)) ?_; (with_reducible refine (laws_heldPlayedS.calls kj68 _ _ t1203 1 t1216 _ ?side1 ?side2 A86.out).mono ?_); (case side1 => repeat (first | exact (xr_' HO_10.out).2.2 | (with_reducible refine xg_' ?_ _) | (with_reducible refine xe_' ?_ _) | (with_reducible refine xf_' ?_))); (case side2 => exact (xr_' HO_10.out).2.1); rintro e w' ⟨rfl, ⟨nd, rfl⟩⟩; refine ⟨_, rfl, ?_⟩))
           go_ret
           exact ⟨by first | rfl | (simp [errW_none, errW_some] <;> rfl) | (simp [*, errW_none, errW_some] <;> rfl), by repeat (first | (with_reducible first | exact HB.out | apply pa_' | apply pn_' | apply pd_') | exact HB.out)⟩
          rw [if_neg c87] at H
          have c87b0 : decide (t1216 < 0) = false := decide_eq_false c87
          clear c87
          by_cases c88 : t1216 = t1202
          ·
           rw [if_pos c88] at H
           have c88b0 : (t1216 == t1202) = true := beq_iff_eq.mpr c88
           have c88b1 : (t1216 != t1202) = false := bne_eq_false_iff_eq.mpr c88
           clear c88
           obtain rfl := Option.some.inj H
           go_wp2_with (first | ((with_reducible refine xj_' (f := 36) rfl ?_); refine goesL_ (some 113) rfl rfl Try.func36 (by kernel_rfl) rfl #[.slice Ao70 t1203.length co70, .int .i64 1] rfl (by (try simp only [xm_', xc_', xn_']); first | done | rfl | (simp only [xd_', xt_']; rfl)) ?_; (with_reducible refine (laws_heldPlayedS.calls kj68 _ _ t1203 1 t1216 _ ?side1 ?side2 A86.out).mono ?_); (case side1 => repeat (first | exact (xr_' HO_10.out).2.2 | (with_reducible refine xg_' ?_ _) | (with_reducible refine xe_' ?_ _) | (with_reducible refine xf_' ?_))); (case side2 => exact (xr_' HO_10.out).2.1); rintro e w' ⟨rfl, ⟨nd, rfl⟩⟩; refine ⟨_, rfl, ?_⟩))
           go_ret
           exact ⟨by first | rfl | (simp [errW_none, errW_some] <;> rfl) | (simp [*, errW_none, errW_some] <;> rfl), by repeat (first | (with_reducible first | exact HB.out | apply pa_' | apply pn_' | apply pd_') | exact HB.out)⟩
          rw [if_neg c88] at H
          have c88b0 : (t1216 == t1202) = false := beq_eq_false_iff_ne.mpr c88
          have c88b1 : (t1216 != t1202) = true := bne_iff_ne.mpr c88
          obtain rfl := Option.some.inj H
          go_wp2_with (first | ((with_reducible refine xj_' (f := 36) rfl ?_); refine goesL_ (some 113) rfl rfl Try.func36 (by kernel_rfl) rfl #[.slice Ao70 t1203.length co70, .int .i64 1] rfl (by (try simp only [xm_', xc_', xn_']); first | done | rfl | (simp only [xd_', xt_']; rfl)) ?_; (with_reducible refine (laws_heldPlayedS.calls kj68 _ _ t1203 1 t1216 _ ?side1 ?side2 A86.out).mono ?_); (case side1 => repeat (first | exact (xr_' HO_10.out).2.2 | (with_reducible refine xg_' ?_ _) | (with_reducible refine xe_' ?_ _) | (with_reducible refine xf_' ?_))); (case side2 => exact (xr_' HO_10.out).2.1); rintro e w' ⟨rfl, ⟨nd, rfl⟩⟩; refine ⟨_, rfl, ?_⟩))
          go_ret
          exact ⟨by first | rfl | (simp [errW_none, errW_some] <;> rfl) | (simp [*, errW_none, errW_some] <;> rfl), by repeat (first | (with_reducible first | exact HB.out | apply pa_' | apply pn_' | apply pd_') | exact HB.out)⟩
       rw [if_neg c65] at H
       have c65b0 : (t1204 == t1202) = false := beq_eq_false_iff_ne.mpr c65
       have c65b1 : (t1204 != t1202) = true := bne_iff_ne.mpr c65
       obtain rfl := Option.some.inj H
       obtain ⟨Ao89, co89, eo89⟩ := Kd.R_slice HO_10.out
       subst eo89
       go_wp2_with (first | ((with_reducible refine xj_' (f := 29) rfl ?_); refine goesL_ (some 85) rfl rfl Try.func29 (by kernel_rfl) rfl #[.slice Ao89 t1184.length co89, .int .i64 1] rfl (by (try simp only [xm_', xc_', xn_']); first | done | rfl | (simp only [xd_', xt_']; rfl)) ?_; (with_reducible refine (laws_markPlayedS.calls kj40 (fun k_ => some k_ = (.slice Ao89 t1184.length co89 : Value).ownBlock) (.slice Ao89 t1184.length co89) t1184 1 t1202 t1203 w _ ?side1 ?side2 A60.out).mono ?_); (case side1 => repeat (first | (with_reducible first | exact HB.out | apply pa_' | apply pn_' | apply pd_') | exact HB.out)); (case side2 => exact Kd.R_tight rfl HO_10.out); rintro e w90 ⟨rfl, hy0, hb, hkp⟩; refine ⟨_, rfl, ?_⟩; have n0_ := sk_' (xi_' (ok' := fun k_ => some k_ ≠ (.slice Ao89 t1184.length co89 : Value).ownBlock) (Kd.R_keptB (HO_6.out) hkp (fun k_ hk_ hs_ => (hk_) hs_)) (fun k_ hk_ => hk_.1)); have n1_ := sk_' (Kd.R_reok rfl hy0 (fun k_ e_ => HO_10.out.1 k_ e_)); have n2_ := sk_' (hb); clear HO_6; clear HO_10; clear HB; have HO_6 := n0_; have HO_10 := n1_; have HB := n2_; clear n0_ n1_ n2_; (try clear hb); (try clear hkp); (try clear hy0)) | ((with_reducible refine xj_' (f := 36) rfl ?_); refine goesL_ (some 88) rfl rfl Try.func36 (by kernel_rfl) rfl #[.slice Ao89 t1203.length co89, .int .i64 1] rfl (by (try simp only [xm_', xc_', xn_']); first | done | (rw [show t1203.length = t1184.length from (xr_' HO_10.out).1.symm] <;> rfl) | rfl | (simp only [xd_', xt_']; rfl)) ?_; (with_reducible refine (laws_heldPlayedS.calls kj40 _ _ t1203 1 t1204 _ ?side1 ?side2 A61.out).mono ?_); (case side1 => repeat (first | exact (xr_' HO_10.out).2.2 | (with_reducible refine xg_' ?_ _) | (with_reducible refine xe_' ?_ _) | (with_reducible refine xf_' ?_))); (case side2 => rw [show t1203.length = t1184.length from (xr_' HO_10.out).1.symm]; exact (xr_' HO_10.out).2.1); rintro e w' ⟨rfl, ⟨nd, rfl⟩⟩; refine ⟨_, rfl, ?_⟩))
       go_ret
       exact ⟨by first | rfl | (simp [errW_none, errW_some] <;> rfl) | (simp [*, errW_none, errW_some] <;> rfl), by repeat (first | (with_reducible first | exact HB.out | apply pa_' | apply pn_' | apply pd_') | exact HB.out)⟩
    replace c38 := Bool.eq_false_iff.mpr c38
    subst c38
    rw [if_neg (show ¬ (false = true) by decide)] at H
    obtain rfl := Option.some.inj H
    go_wp2_with (first | ((with_reducible refine xj_' (f := 48) rfl ?_); refine goesL_ (some 56) rfl rfl Try.func48 (by kernel_rfl) rfl #[.slice A0 l0.length c0] rfl (by (try simp only [xm_', xc_', xn_']); first | done | rfl | (simp only [xd_', xt_']; rfl)) ?_; (with_reducible refine (laws_toEventS.calls kj12 _ _ l0 t1189 _ ?side1 ?side2 A33.out).mono ?_); (case side1 => repeat (first | exact (Kd.C_below HR0.out HB.out) | (with_reducible refine xg_' ?_ _) | (with_reducible refine xe_' ?_ _) | (with_reducible refine xf_' ?_))); (case side2 => exact HC0.out); rintro e w91 ⟨v1190, rfl, ho0, hb⟩; refine ⟨_, rfl, ?_⟩; have n0_ := sk_' (xb_' (by (with_reducible repeat (first | apply ra_' | apply rn_' | apply rd1_')); exact HO_6.out) hb); have n1_ := sk_' (Kd.R_elder' (by (with_reducible repeat (first | apply ra_' | apply rn_' | apply rd1_')); exact HO_8.out) (Kd.R_base ho0) hb); have n2_ := sk_' (xb_' (by (with_reducible repeat (first | apply ra_' | apply rn_' | apply rd1_')); exact HO_9.out) hb); have n3_ := sk_' (xb_' (by (with_reducible repeat (first | apply ra_' | apply rn_' | apply rd1_')); exact HO_10.out) hb); have n4_ := sk_' (Kd.R_lower (Kd.R_new' ho0 (Kd.R_lt (by (with_reducible repeat (first | apply ra_' | apply rn_' | apply rd1_')); exact HO_8.out))) (ps_' (by repeat (first | (with_reducible first | exact HB.out | apply pa_' | apply pn_' | apply pd_') | exact HB.out)))); have n5_ := sk_' (pp_' (by repeat (first | (with_reducible first | exact HB.out | apply pa_' | apply pn_' | apply pd_') | exact HB.out)) hb); clear HO_6; clear HO_8; clear HO_9; clear HO_10; clear HB; have HO_6 := n0_; have HO_8 := n1_; have HO_9 := n2_; have HO_10 := n3_; have HO1191 := n4_; have HB := n5_; clear n0_ n1_ n2_ n3_ n4_ n5_; (try clear hb); (try clear hb2); (try clear hk); (try clear hi); (try clear ho0); obtain ⟨Ao92, co92, eo92⟩ := Kd.R_slice HO1191.out; subst eo92) | ((with_reducible refine xj_' (f := 41) rfl ?_); refine goesL_ (some 57) rfl rfl Try.func41 (by kernel_rfl) rfl #[.slice Ao21 t1178.length co21, .slice Ao92 t1189.length co92] rfl (by (try simp only [xm_', xc_', xn_']); first | done | rfl | (simp only [xd_', xt_']; rfl)) ?_; (with_reducible refine (laws_eqEventS.calls kj12 _ _ t1178 _ _ t1189 true _ ?side1 ?side2 ?side3 ?side4 A34.out).mono ?_); (case side1 => repeat (first | exact (xr_' HO_8.out).2.2 | (with_reducible refine xg_' ?_ _) | (with_reducible refine xe_' ?_ _) | (with_reducible refine xf_' ?_))); (case side2 => exact (xr_' HO_8.out).2.1); (case side3 => repeat (first | exact (xr_' HO1191.out).2.2 | (with_reducible refine xg_' ?_ _) | (with_reducible refine xe_' ?_ _) | (with_reducible refine xf_' ?_))); (case side4 => exact (xr_' HO1191.out).2.1); rintro e w93 ⟨rfl, hb⟩; refine ⟨_, rfl, ?_⟩; have n0_ := sk_' (xb_' (by (with_reducible repeat (first | apply ra_' | apply rn_' | apply rd1_')); exact HO_6.out) hb); have n1_ := sk_' (xb_' (by (with_reducible repeat (first | apply ra_' | apply rn_' | apply rd1_')); exact HO_8.out) hb); have n2_ := sk_' (xb_' (by (with_reducible repeat (first | apply ra_' | apply rn_' | apply rd1_')); exact HO_9.out) hb); have n3_ := sk_' (xb_' (by (with_reducible repeat (first | apply ra_' | apply rn_' | apply rd1_')); exact HO_10.out) hb); have n4_ := sk_' (xb_' (by (with_reducible repeat (first | apply ra_' | apply rn_' | apply rd1_')); exact HO1191.out) hb); have n5_ := sk_' (pp_' (by repeat (first | (with_reducible first | exact HB.out | apply pa_' | apply pn_' | apply pd_') | exact HB.out)) hb); clear HO_6; clear HO_8; clear HO_9; clear HO_10; clear HO1191; clear HB; have HO_6 := n0_; have HO_8 := n1_; have HO_9 := n2_; have HO_10 := n3_; have HO1191 := n4_; have HB := n5_; clear n0_ n1_ n2_ n3_ n4_ n5_; (try clear hb); (try clear hb2); (try clear hk); (try clear hi)) | ((with_reducible refine xj_' (f := 58) rfl ?_); refine goesL_ (some 61) rfl rfl Try.func58 (by kernel_rfl) rfl #[.slice A1 l1.length c1] rfl (by (try simp only [xm_', xc_', xn_']); first | done | rfl | (simp only [xd_', xt_']; rfl)) ?_; (with_reducible refine (laws_toTempoS.calls kj12 _ _ l1 t1193 _ ?side1 ?side2 A36.out).mono ?_); (case side1 => repeat (first | exact (Kd.C_below HR1.out HB.out) | (with_reducible refine xg_' ?_ _) | (with_reducible refine xe_' ?_ _) | (with_reducible refine xf_' ?_))); (case side2 => exact HC1.out); rintro e w94 ⟨v1194, rfl, ho0, hb⟩; refine ⟨_, rfl, ?_⟩; have n0_ := sk_' (xb_' (by (with_reducible repeat (first | apply ra_' | apply rn_' | apply rd1_')); exact HO_6.out) hb); have n1_ := sk_' (xb_' (by (with_reducible repeat (first | apply ra_' | apply rn_' | apply rd1_')); exact HO_8.out) hb); have n2_ := sk_' (Kd.R_elder' (by (with_reducible repeat (first | apply ra_' | apply rn_' | apply rd1_')); exact HO_9.out) (Kd.R_base ho0) hb); have n3_ := sk_' (xb_' (by (with_reducible repeat (first | apply ra_' | apply rn_' | apply rd1_')); exact HO_10.out) hb); have n4_ := sk_' (xb_' (by (with_reducible repeat (first | apply ra_' | apply rn_' | apply rd1_')); exact HO1191.out) hb); have n5_ := sk_' (Kd.R_lower (Kd.R_new' ho0 (Kd.R_lt (by (with_reducible repeat (first | apply ra_' | apply rn_' | apply rd1_')); exact HO_9.out))) (ps_' (by repeat (first | (with_reducible first | exact HB.out | apply pa_' | apply pn_' | apply pd_') | exact HB.out)))); have n6_ := sk_' (pp_' (by repeat (first | (with_reducible first | exact HB.out | apply pa_' | apply pn_' | apply pd_') | exact HB.out)) hb); clear HO_6; clear HO_8; clear HO_9; clear HO_10; clear HO1191; clear HB; have HO_6 := n0_; have HO_8 := n1_; have HO_9 := n2_; have HO_10 := n3_; have HO1191 := n4_; have HO1195 := n5_; have HB := n6_; clear n0_ n1_ n2_ n3_ n4_ n5_ n6_; (try clear hb); (try clear hb2); (try clear hk); (try clear hi); (try clear ho0); obtain ⟨Ao95, co95, eo95⟩ := Kd.R_slice HO1195.out; subst eo95) | ((with_reducible refine xj_' (f := 60) rfl ?_); refine goesL_ (some 62) rfl rfl Try.func60 (by kernel_rfl) rfl #[.slice Ao22 t1181.length co22, .slice Ao95 t1193.length co95] rfl (by (try simp only [xm_', xc_', xn_']); first | done | rfl | (simp only [xd_', xt_']; rfl)) ?_; (with_reducible refine (laws_eqTempoS.calls kj12 _ _ t1181 _ _ t1193 false _ ?side1 ?side2 ?side3 ?side4 A37.out).mono ?_); (case side1 => repeat (first | exact (xr_' HO_9.out).2.2 | (with_reducible refine xg_' ?_ _) | (with_reducible refine xe_' ?_ _) | (with_reducible refine xf_' ?_))); (case side2 => exact (xr_' HO_9.out).2.1); (case side3 => repeat (first | exact (xr_' HO1195.out).2.2 | (with_reducible refine xg_' ?_ _) | (with_reducible refine xe_' ?_ _) | (with_reducible refine xf_' ?_))); (case side4 => exact (xr_' HO1195.out).2.1); rintro e w96 ⟨rfl, hb⟩; refine ⟨_, rfl, ?_⟩; have n0_ := sk_' (xb_' (by (with_reducible repeat (first | apply ra_' | apply rn_' | apply rd1_')); exact HO_6.out) hb); have n1_ := sk_' (xb_' (by (with_reducible repeat (first | apply ra_' | apply rn_' | apply rd1_')); exact HO_8.out) hb); have n2_ := sk_' (xb_' (by (with_reducible repeat (first | apply ra_' | apply rn_' | apply rd1_')); exact HO_9.out) hb); have n3_ := sk_' (xb_' (by (with_reducible repeat (first | apply ra_' | apply rn_' | apply rd1_')); exact HO_10.out) hb); have n4_ := sk_' (xb_' (by (with_reducible repeat (first | apply ra_' | apply rn_' | apply rd1_')); exact HO1191.out) hb); have n5_ := sk_' (xb_' (by (with_reducible repeat (first | apply ra_' | apply rn_' | apply rd1_')); exact HO1195.out) hb); have n6_ := sk_' (pp_' (by repeat (first | (with_reducible first | exact HB.out | apply pa_' | apply pn_' | apply pd_') | exact HB.out)) hb); clear HO_6; clear HO_8; clear HO_9; clear HO_10; clear HO1191; clear HO1195; clear HB; have HO_6 := n0_; have HO_8 := n1_; have HO_9 := n2_; have HO_10 := n3_; have HO1191 := n4_; have HO1195 := n5_; have HB := n6_; clear n0_ n1_ n2_ n3_ n4_ n5_ n6_; (try clear hb); (try clear hb2); (try clear hk); (try clear hi)))
    go_ret
    exact ⟨by first | rfl | (simp [errW_none, errW_some] <;> rfl) | (simp [*, errW_none, errW_some] <;> rfl), by repeat (first | (with_reducible first | exact HB.out | apply pa_' | apply pn_' | apply pd_') | exact HB.out)⟩
   replace c35 := Bool.eq_false_iff.mpr c35
   subst c35
   rw [if_neg (show ¬ (false = true) by decide)] at H
   obtain rfl := Option.some.inj H
   go_wp2_with (first | ((with_reducible refine xj_' (f := 48) rfl ?_); refine goesL_ (some 56) rfl rfl Try.func48 (by kernel_rfl) rfl #[.slice A0 l0.length c0] rfl (by (try simp only [xm_', xc_', xn_']); first | done | rfl | (simp only [xd_', xt_']; rfl)) ?_; (with_reducible refine (laws_toEventS.calls kj12 _ _ l0 t1189 _ ?side1 ?side2 A33.out).mono ?_); (case side1 => repeat (first | exact (Kd.C_below HR0.out HB.out) | (with_reducible refine xg_' ?_ _) | (with_reducible refine xe_' ?_ _) | (with_reducible refine xf_' ?_))); (case side2 => exact HC0.out); rintro e w97 ⟨v1190, rfl, ho0, hb⟩; refine ⟨_, rfl, ?_⟩; have n0_ := sk_' (xb_' (by (with_reducible repeat (first | apply ra_' | apply rn_' | apply rd1_')); exact HO_6.out) hb); have n1_ := sk_' (Kd.R_elder' (by (with_reducible repeat (first | apply ra_' | apply rn_' | apply rd1_')); exact HO_8.out) (Kd.R_base ho0) hb); have n2_ := sk_' (xb_' (by (with_reducible repeat (first | apply ra_' | apply rn_' | apply rd1_')); exact HO_9.out) hb); have n3_ := sk_' (xb_' (by (with_reducible repeat (first | apply ra_' | apply rn_' | apply rd1_')); exact HO_10.out) hb); have n4_ := sk_' (Kd.R_lower (Kd.R_new' ho0 (Kd.R_lt (by (with_reducible repeat (first | apply ra_' | apply rn_' | apply rd1_')); exact HO_8.out))) (ps_' (by repeat (first | (with_reducible first | exact HB.out | apply pa_' | apply pn_' | apply pd_') | exact HB.out)))); have n5_ := sk_' (pp_' (by repeat (first | (with_reducible first | exact HB.out | apply pa_' | apply pn_' | apply pd_') | exact HB.out)) hb); clear HO_6; clear HO_8; clear HO_9; clear HO_10; clear HB; have HO_6 := n0_; have HO_8 := n1_; have HO_9 := n2_; have HO_10 := n3_; have HO1191 := n4_; have HB := n5_; clear n0_ n1_ n2_ n3_ n4_ n5_; (try clear hb); (try clear hb2); (try clear hk); (try clear hi); (try clear ho0); obtain ⟨Ao98, co98, eo98⟩ := Kd.R_slice HO1191.out; subst eo98) | ((with_reducible refine xj_' (f := 41) rfl ?_); refine goesL_ (some 57) rfl rfl Try.func41 (by kernel_rfl) rfl #[.slice Ao21 t1178.length co21, .slice Ao98 t1189.length co98] rfl (by (try simp only [xm_', xc_', xn_']); first | done | rfl | (simp only [xd_', xt_']; rfl)) ?_; (with_reducible refine (laws_eqEventS.calls kj12 _ _ t1178 _ _ t1189 false _ ?side1 ?side2 ?side3 ?side4 A34.out).mono ?_); (case side1 => repeat (first | exact (xr_' HO_8.out).2.2 | (with_reducible refine xg_' ?_ _) | (with_reducible refine xe_' ?_ _) | (with_reducible refine xf_' ?_))); (case side2 => exact (xr_' HO_8.out).2.1); (case side3 => repeat (first | exact (xr_' HO1191.out).2.2 | (with_reducible refine xg_' ?_ _) | (with_reducible refine xe_' ?_ _) | (with_reducible refine xf_' ?_))); (case side4 => exact (xr_' HO1191.out).2.1); rintro e w99 ⟨rfl, hb⟩; refine ⟨_, rfl, ?_⟩; have n0_ := sk_' (xb_' (by (with_reducible repeat (first | apply ra_' | apply rn_' | apply rd1_')); exact HO_6.out) hb); have n1_ := sk_' (xb_' (by (with_reducible repeat (first | apply ra_' | apply rn_' | apply rd1_')); exact HO_8.out) hb); have n2_ := sk_' (xb_' (by (with_reducible repeat (first | apply ra_' | apply rn_' | apply rd1_')); exact HO_9.out) hb); have n3_ := sk_' (xb_' (by (with_reducible repeat (first | apply ra_' | apply rn_' | apply rd1_')); exact HO_10.out) hb); have n4_ := sk_' (xb_' (by (with_reducible repeat (first | apply ra_' | apply rn_' | apply rd1_')); exact HO1191.out) hb); have n5_ := sk_' (pp_' (by repeat (first | (with_reducible first | exact HB.out | apply pa_' | apply pn_' | apply pd_') | exact HB.out)) hb); clear HO_6; clear HO_8; clear HO_9; clear HO_10; clear HO1191; clear HB; have HO_6 := n0_; have HO_8 := n1_; have HO_9 := n2_; have HO_10 := n3_; have HO1191 := n4_; have HB := n5_; clear n0_ n1_ n2_ n3_ n4_ n5_; (try clear hb); (try clear hb2); (try clear hk); (try clear hi)))
   go_ret
   exact ⟨by first | rfl | (simp [errW_none, errW_some] <;> rfl) | (simp [*, errW_none, errW_some] <;> rfl), by repeat (first | (with_reducible first | exact HB.out | apply pa_' | apply pn_' | apply pd_') | exact HB.out)⟩
end Go.Proofs.Ytiophiipmgpaeaa.F

namespace Go.Proofs.Ytiophiipmgpaeaa.Opened
open Go.ChangeShapes Go.WideShapes Go.Deep Go.RowKit Go.Joins Go.Proofs.YtiophiipmgpaeaaW.PrintWords
set_option linter.unusedVariables false
def I64 (n : Int) : Prop := -9223372036854775808 ≤ n ∧ n ≤ 9223372036854775807
theorem i64_of {n : Int} (h : (Lit.int .i64 n).wf = true) : I64 n := bounds_i64 h
section
variable {H : Type} {enc : TypeId × Value → H} {P : Program} {w : World} {base : Nat} {spare : Nat → Bool} {held : Bool}
def Fits (enc : TypeId × Value → H) (P : Program) (w : World) (base : Nat) (spare : Nat → Bool) (held : Bool) (fs : Array Field) (vs : List Value) : Prop :=
 vs.length = fs.size ∧ ∀ (j : Nat) (f : Field) (v : Value), fs[j]? = some f → vs[j]? = some v → ∃ (n : Nat) (y : DataW H × List MemPlace), DataW.trod enc P w base spare held n f.type [v] = some y
theorem Fits.int {fs : Array Field} {vs : List Value} (h : Fits enc P w base spare held fs vs) {j : Nat} {f : Field} (hf : fs[j]? = some f) (ht : P.underlying f.type = some (.int .i64)) : ∃ n, vs[j]? = some (.int .i64 n) ∧ I64 n := by
 have hj : j < vs.length := by rw [h.1]; exact (Array.getElem?_eq_some_iff.1 hf).1
 obtain ⟨m, y, hy⟩ := h.2 j f _ hf (List.getElem?_eq_getElem hj)
 obtain ⟨n, e, _, hw⟩ := DataW.trod_int ht hy
 simp only [List.cons.injEq, and_true] at e
 exact ⟨n, by rw [List.getElem?_eq_getElem hj, e], i64_of hw⟩
theorem Fits.bool {fs : Array Field} {vs : List Value} (h : Fits enc P w base spare held fs vs) {j : Nat} {f : Field} (hf : fs[j]? = some f) (ht : P.underlying f.type = some .bool) : ∃ b, vs[j]? = some (.bool b) := by
 have hj : j < vs.length := by rw [h.1]; exact (Array.getElem?_eq_some_iff.1 hf).1
 obtain ⟨m, y, hy⟩ := h.2 j f _ hf (List.getElem?_eq_getElem hj)
 obtain ⟨n, e, _⟩ := DataW.trod_bool ht hy
 simp only [List.cons.injEq, and_true] at e
 exact ⟨n, by rw [List.getElem?_eq_getElem hj, e]⟩
theorem list2 {α : Type} {l : List α} {a b : α} (hl : l.length = 2) (h0 : l[0]? = some a) (h1 : l[1]? = some b) : l = [a, b] := by
 match l, hl with
 | [x, y], _ => simp at h0 h1; rw [h0, h1]
theorem list4 {α : Type} {l : List α} {a b c d : α} (hl : l.length = 4) (h0 : l[0]? = some a) (h1 : l[1]? = some b) (h2 : l[2]? = some c) (h3 : l[3]? = some d) : l = [a, b, c, d] := by
 match l, hl with
 | [x, y, z, u], _ => simp at h0 h1 h2 h3; rw [h0, h1, h2, h3]
theorem list_of {α : Type} (Q : Nat → α → Prop) : ∀ n : Nat, (∀ i, i < n → ∃ x, Q i x) → ∃ l : List α, l.length = n ∧ ∀ (j : Nat) (p : α), l[j]? = some p → Q j p
 | 0, _ => ⟨[], rfl, fun j p h => by simp at h⟩
 | n + 1, h => by
  obtain ⟨l, hl, hq⟩ := list_of Q n (fun i hi => h i (by omega))
  obtain ⟨x, hx⟩ := h n (by omega)
  refine ⟨l ++ [x], by simp [hl], fun j p hj => ?_⟩
  rcases Nat.lt_or_ge j n with hn | hn
  ·
   rw [List.getElem?_append_left (by omega)] at hj
   exact hq j p hj
  have hj' : j = n := by
   have := (List.getElem?_eq_some_iff.1 hj).1
   rw [List.length_append, List.length_singleton] at this
   omega
  subst hj'
  have : x = p := by
   rw [List.getElem?_append_right (by omega), hl] at hj
   simpa using hj
  rw [← this]
  exact hx
theorem open_rows {α : Type} (d : Kd α) (Good : α → Prop) {t e : TypeId} {fs : Array Field} {a : Option Addr} {len cap : Nat} {dd : DataW H} {ps : List MemPlace}
  (ht : P.underlying t = some (.slice e)) (he : P.underlying e = some (.struct fs)) (hone : oneCellFields P fs = true) (hC : P.cellsOf e = fs.size) (hsz : d.sz = fs.size)
  (hk : ∀ vs, Fits enc P w base spare held fs vs → ∃ x, Good x ∧ d.K w x vs)
  (h : DataW.Trod enc P w base spare held t (.slice a len cap) dd ps) : ∃ l : List α, l.length = len ∧ len ≤ cap ∧ d.C w a len l ∧ ∀ x ∈ l, Good x := by
 obtain ⟨fuel, hf⟩ := h
 rcases open_slice ht hf with ⟨hcs, _⟩ | ⟨x, l, c, m, n, D, Pl, hcs, _, hl, hm, hmm, hx, hi⟩
 ·
  simp [Value.cells] at hcs
  obtain ⟨rfl, rfl, rfl⟩ := hcs
  exact ⟨[], rfl, Nat.le_refl _, Kd.C_nil d w, by simp⟩
 simp [Value.cells] at hcs
 obtain ⟨rfl, rfl, rfl⟩ := hcs
 have hlm : len ≤ m := by rw [hmm]; split <;> omega
 obtain ⟨l, hll, hq⟩ := list_of (fun i (y : α) => Good y ∧ ∃ c : List Value, c.length = d.sz ∧ d.K w y c ∧ ∀ j u, c[j]? = some u → w.cell? (x.add (i * d.sz + j)) = some u) len (by
  intro i hil
  obtain ⟨cs', hc, ht'⟩ := hi i (by omega)
  rw [hC] at hc
  obtain ⟨ys, n', hn', hy, hlen, hyl, hfld⟩ := DataW.trod_struct he ht'
  obtain ⟨_, hcl, hat⟩ := World.cells?_some hc
  have hlen' : cs'.length = fs.size := hcl
  obtain ⟨y, hg, hK⟩ := hk cs' ⟨hlen', fun j f v hj hv => by
   obtain ⟨ho, hkk⟩ := hone_of hone j f hj
   have hjl : j < fs.size := (Array.getElem?_eq_some_iff.1 hj).1
   have h1 := hfld j f hj
   rw [ho, hkk] at h1
   have hone' : (cs'.drop j).take 1 = [v] := by
    rw [List.drop_eq_getElem_cons (by omega)]
    have : cs'[j]'(by omega) = v := by
     rw [List.getElem?_eq_getElem (by omega)] at hv
     exact Option.some.inj hv
    rw [this]
    rfl
   rw [hone'] at h1
   exact ⟨_, _, h1.trans (List.getElem?_eq_getElem (by omega))⟩⟩
  refine ⟨y, hg, cs', by rw [hlen', hsz], hK, fun j u hu => ?_⟩
  have hjl : j < fs.size := by
   have := (List.getElem?_eq_some_iff.1 hu).1
   omega
  have hcell := hat j hjl
  rw [hsz, ← Go.Deep.add_add, hcell]
  exact hu)
 refine ⟨l, hll, hl, ⟨hll, ?_, fun _ => ⟨x, rfl, fun j p hj => (hq j p hj).2⟩⟩, fun y hy => ?_⟩
 ·
  unfold maxLen at hm
  omega
 obtain ⟨j, hj⟩ := List.getElem?_of_mem hy
 exact (hq j y hj).1
end
end Go.Proofs.Ytiophiipmgpaeaa.Opened

namespace Go.Proofs.Ytiophiipmgpaeaa.F
open Go.ChangeShapes Go.WideShapes Go.Deep Go.RowKit Go.Joins Go.Proofs.YtiophiipmgpaeaaW.PrintWords Go.Proofs.Ytiophiipmgpaeaa.Opened
set_option linter.unusedVariables false
def Good126 (x : S126) : Prop := I64 x.f0 ∧ I64 x.f1 ∧ I64 x.f2 ∧ I64 x.f3
theorem hk126 {H : Type} {enc : TypeId × Value → H} {w : World} {base : Nat} {spare : Nat → Bool} {held : Bool} {fs : Array Field} (hfs : Try.prog.underlying 126 = some (.struct fs)) (vs : List Value) (h : Fits enc Try.prog w base spare held fs vs) : ∃ x : S126, Good126 x ∧ k126.K w x vs := by
 rw [Try.underlying126] at hfs
 obtain rfl := TypeDesc.struct.inj (Option.some.inj hfs)
 obtain ⟨n0, e0, g0⟩ := h.int (j := 0) rfl Try.underlying3
 obtain ⟨n1, e1, g1⟩ := h.int (j := 1) rfl Try.underlying3
 obtain ⟨n2, e2, g2⟩ := h.int (j := 2) rfl Try.underlying3
 obtain ⟨n3, e3, g3⟩ := h.int (j := 3) rfl Try.underlying3
 obtain rfl := list4 (by rw [h.1]; rfl) e0 e1 e2 e3
 exact ⟨⟨n0, n1, n2, n3⟩, ⟨g0, g1, g2, g3⟩, k126_mk w ⟨n0, n1, n2, n3⟩⟩
def Good142 (x : S142) : Prop := I64 x.f0 ∧ I64 x.f1
theorem hk142 {H : Type} {enc : TypeId × Value → H} {w : World} {base : Nat} {spare : Nat → Bool} {held : Bool} {fs : Array Field} (hfs : Try.prog.underlying 142 = some (.struct fs)) (vs : List Value) (h : Fits enc Try.prog w base spare held fs vs) : ∃ x : S142, Good142 x ∧ k142.K w x vs := by
 rw [Try.underlying142] at hfs
 obtain rfl := TypeDesc.struct.inj (Option.some.inj hfs)
 obtain ⟨n0, e0, g0⟩ := h.int (j := 0) rfl Try.underlying3
 obtain ⟨n1, e1, g1⟩ := h.int (j := 1) rfl Try.underlying3
 obtain rfl := list2 (by rw [h.1]; rfl) e0 e1
 exact ⟨⟨n0, n1⟩, ⟨g0, g1⟩, k142_mk w ⟨n0, n1⟩⟩
end Go.Proofs.Ytiophiipmgpaeaa.F

namespace Go.Proofs.Ytiophiipmgpaeaa.F
open Go.RowKit Go.Proofs.Ytiophiipmgpaeaa.Opened Go.Proofs.YtiophiipmgpaeaaW.PrintWords Go.Proofs.YtiophiipmgpaeaaW.PrintLast
set_option linter.unusedVariables false
set_option linter.unusedSimpArgs false
theorem w1 {n m : Nat} (h : n < m) (hm : m ≤ 9223372036854775807) : wrap64 ((n : Int) + 1) = ((n + 1 : Nat) : Int) := by unfold wrap64; omega
theorem wid {x : Int} (h0 : -9223372036854775808 ≤ x) (h1 : x ≤ 9223372036854775807) : wrap64 x = x := by unfold wrap64; omega
theorem bind_left {α β : Type} {a a' : Option α} (f : α → Option β) (h : a = a') : a.bind f = a'.bind f := by rw [h]
theorem take_next {α : Type} {l : List α} {n : Nat} (h : n < l.length) : l.take (n + 1) = l.take n ++ [l[n]] := by rw [List.take_succ_eq_append_getElem h]
theorem set_take {α : Type} (acc : List α) (n : Nat) (v : α) (h : n < acc.length) : (acc.set n v).take (n + 1) = acc.take n ++ [v] := by
 rw [List.take_succ_eq_append_getElem (by simpa using h), List.take_set, List.set_eq_of_length_le (by rw [List.length_take]; omega)]
 simp
theorem rdT109 (xs : List S109) (n : Nat) (h : n < xs.length) : rd_T109 xs (n : Int) = xs[n] := by simp [rd_T109, h]
theorem rdT118 (xs : List S118) (n : Nat) (h : n < xs.length) : rd_T118 xs (n : Int) = xs[n] := by simp [rd_T118, h]
theorem rdT126 (xs : List S126) (n : Nat) (h : n < xs.length) : rd_T126 xs (n : Int) = xs[n] := by simp [rd_T126, h]
theorem rdT140 (xs : List S140) (n : Nat) (h : n < xs.length) : rd_T140 xs (n : Int) = xs[n] := by simp [rd_T140, h]
theorem rdT142 (xs : List S142) (n : Nat) (h : n < xs.length) : rd_T142 xs (n : Int) = xs[n] := by simp [rd_T142, h]
end Go.Proofs.Ytiophiipmgpaeaa.F

namespace Go.Proofs.Ytiophiipmgpaeaa.F
open Go.RowKit Go.Proofs.Ytiophiipmgpaeaa.Opened Go.Proofs.YtiophiipmgpaeaaW.PrintWords Go.Proofs.YtiophiipmgpaeaaW.PrintLast Go.Proofs.YtiophiipmgpaeaaW.PrintMore
set_option linter.unusedVariables false
set_option linter.unusedSimpArgs false
theorem spec_l1In.ok (a b c : Int) : spec_l1In.f a b c = some (decide (b ≤ a ∧ a ≤ c)) := by
 unfold spec_l1In.f
 by_cases h : b ≤ a <;> simp [h]
theorem impl_InRange.ok (a b c : Int) : impl_InRange.f a b c = some (decide (b ≤ a ∧ a ≤ c)) := by
 unfold impl_InRange.f
 by_cases h : b ≤ a <;> simp [h]
abbrev Evt := S118
def okE (e : Evt) : Prop := (0 ≤ e.f0 ∧ e.f0 ≤ 2000) ∧ (1 ≤ e.f1 ∧ e.f1 ≤ 96) ∧ (21 ≤ e.f2 ∧ e.f2 ≤ 108) ∧ (1 ≤ e.f3 ∧ e.f3 ≤ 4)
instance (e : Evt) : Decidable (okE e) := by unfold okE; infer_instance
def before (a b : Evt) : Prop := a.f0 < b.f0 ∨ (a.f0 = b.f0 ∧ (a.f3 < b.f3 ∨ (a.f3 = b.f3 ∧ a.f2 < b.f2)))
instance (a b : Evt) : Decidable (before a b) := by unfold before; infer_instance
theorem spec_l8Ok.ok (e : Evt) : spec_l8Ok.f e.f0 e.f1 e.f2 e.f3 = some (decide (okE e)) := by
 unfold spec_l8Ok.f okE
 simp only [spec_l1In.ok, Option.bind_some]
 by_cases h1 : 0 ≤ e.f0 ∧ e.f0 ≤ 2000 <;> by_cases h2 : 1 ≤ e.f1 ∧ e.f1 ≤ 96 <;> by_cases h3 : 21 ≤ e.f2 ∧ e.f2 ≤ 108 <;> by_cases h4 : 1 ≤ e.f3 ∧ e.f3 ≤ 4 <;> simp [h1, h2, h3, h4]
theorem spec_l8Before.ok (a b : Evt) : spec_l8Before.f a.f0 a.f1 a.f2 a.f3 b.f0 b.f1 b.f2 b.f3 = some (decide (before a b)) := by
 unfold spec_l8Before.f before
 by_cases h1 : a.f0 = b.f0
 ·
  by_cases h2 : a.f3 = b.f3 <;> simp [h1, h2]
 simp [h1]
def cmpI (a b : Int) : Int := if a < b then -1 else if b < a then 1 else 0
theorem cmp_Compare_int.ok (a b : Int) : cmp_Compare_int.f a b = some (cmpI a b) := by
 unfold cmp_Compare_int.f cmp_isNaN_int.f cmpI
 by_cases h1 : a < b
 ·
  simp [h1]
 by_cases h2 : b < a <;> simp [h1, h2]
theorem cmp_Or_int.ok3 (x y z : Int) (k : Nat) (hk : 4 ≤ k) : cmp_Or_int.f k [x, y, z] = some (if x = 0 then (if y = 0 then z else y) else x) := by
 obtain ⟨k, rfl⟩ : ∃ m, k = m + 4 := ⟨k - 4, by omega⟩
 have e1 : wrap64 (1 : Int) = 1 := by unfold wrap64; omega
 have e2 : wrap64 (2 : Int) = 2 := by unfold wrap64; omega
 have e3 : wrap64 (3 : Int) = 3 := by unfold wrap64; omega
 by_cases h1 : x = 0
 ·
  by_cases h2 : y = 0
  ·
   by_cases h3 : z = 0 <;> simp [cmp_Or_int.f, cmp_Or_int.l0, rd, h1, h2, h3, e1, e2, e3]
  simp [cmp_Or_int.f, cmp_Or_int.l0, rd, h1, h2, e1, e2, e3]
 simp [cmp_Or_int.f, cmp_Or_int.l0, rd, h1, e1, e2, e3]
def ordE (a b : Evt) : Int := if cmpI a.f0 b.f0 = 0 then (if cmpI a.f3 b.f3 = 0 then cmpI a.f2 b.f2 else cmpI a.f3 b.f3) else cmpI a.f0 b.f0
theorem impl_eventOrder.ok (a b : Evt) (k : Nat) (hk : 4 ≤ k) : impl_eventOrder.f k a.f0 a.f1 a.f2 a.f3 b.f0 b.f1 b.f2 b.f3 = some (ordE a b) := by
 unfold impl_eventOrder.f
 simp only [cmp_Compare_int.ok, Option.bind_some, cmp_Or_int.ok3 _ _ _ k hk]
 rfl
theorem ordE_lt (a b : Evt) : ordE a b < 0 ↔ before a b := by
 unfold ordE cmpI before
 constructor
 ·
  intro h; repeat' split at h
  all_goals omega
 intro h; repeat' split
 all_goals omega
def scB : Option Evt → List Evt → Bool
 | _, [] => true
 | none, e :: l => decide (okE e) && scB (some e) l
 | some q, e :: l => decide (okE e) && (decide (before q e) && scB (some e) l)
def isScoreB (l : List Evt) : Bool := scB none l && decide (l.length ≤ 40)
def prevAt (l : List Evt) (n : Nat) : Option Evt := if n = 0 then none else l[n - 1]?
theorem prevAt_next (l : List Evt) (n : Nat) (h : n < l.length) : prevAt l (n + 1) = some l[n] := by simp [prevAt, h]
theorem prevAt_pos (l : List Evt) (n : Nat) (h0 : n ≠ 0) (h : n - 1 < l.length) : prevAt l n = some l[n - 1] := by simp [prevAt, h0, h]
theorem spec_IsScore.loop (l : List Evt) (hm : l.length ≤ 9223372036854775807) : ∀ (d k n : Nat), l.length - n ≤ d → d < k → spec_IsScore.l0 k l (n : Int) = some (scB (prevAt l n) (l.drop n) && decide (l.length ≤ 40)) := by
 intro d
 induction d with
 | zero =>
  intro k n hd hk
  obtain ⟨k, rfl⟩ : ∃ m, k = m + 1 := ⟨k - 1, by omega⟩
  simp only [spec_IsScore.l0]
  rw [if_neg (by omega), List.drop_of_length_le (by omega)]
  have e : ((l.length : Int) ≤ 40) ↔ l.length ≤ 40 := by omega
  simp [scB, e]
 | succ d ih =>
  intro k n hd hk
  obtain ⟨k, rfl⟩ : ∃ m, k = m + 1 := ⟨k - 1, by omega⟩
  by_cases h : n < l.length
  ·
   simp only [spec_IsScore.l0]
   rw [if_pos (by omega), if_pos (by omega), rdT118 l n h, spec_l8Ok.ok, w1 h hm, List.drop_eq_getElem_cons h]
   simp only [Option.bind_some]
   have ih' := ih k (n + 1) (by omega) (by omega)
   rw [prevAt_next l n h] at ih'
   by_cases c1 : okE l[n]
   ·
    by_cases c2 : n = 0
    ·
     subst c2
     rw [if_pos (by simpa using c1), if_neg (by omega), ih']
     simp [prevAt, scB, c1]
    have e : wrap64 ((n : Int) - 1) = ((n - 1 : Nat) : Int) := by unfold wrap64; omega
    rw [if_pos (by simpa using c1), if_pos (by omega), e, if_pos (by omega), if_pos (by omega), rdT118 l (n - 1) (by omega), spec_l8Before.ok]
    simp only [Option.bind_some]
    rw [ih', prevAt_pos l n c2 (by omega)]
    by_cases c3 : before l[n - 1] l[n]
    ·
     simp [scB, c1, c3]
    simp [scB, c3]
   rw [if_neg (by simpa using c1)]
   cases prevAt l n <;> simp [scB, c1]
  simp only [spec_IsScore.l0]
  rw [if_neg (by omega), List.drop_of_length_le (by omega)]
  have e : ((l.length : Int) ≤ 40) ↔ l.length ≤ 40 := by omega
  simp [scB, e]
theorem spec_IsScore.ok (l : List Evt) (hm : l.length ≤ 9223372036854775807) (k : Nat) (hk : l.length < k) : spec_IsScore.f k l = some (isScoreB l) := by
 unfold spec_IsScore.f
 exact spec_IsScore.loop l hm l.length k 0 (by omega) hk
theorem impl_IsScore.loop (l : List Evt) (hm : l.length ≤ 9223372036854775807) : ∀ (d k n : Nat), l.length - n ≤ d → d + 4 < k → impl_IsScore.l0 k l l l.length (n : Int) = some (scB (prevAt l n) (l.drop n) && decide (l.length ≤ 40)) := by
 intro d
 induction d with
 | zero =>
  intro k n hd hk
  obtain ⟨k, rfl⟩ : ∃ m, k = m + 1 := ⟨k - 1, by omega⟩
  simp only [impl_IsScore.l0]
  rw [if_neg (by omega), List.drop_of_length_le (by omega)]
  have e : ((l.length : Int) ≤ 40) ↔ l.length ≤ 40 := by omega
  simp [scB, e]
 | succ d ih =>
  intro k n hd hk
  obtain ⟨k, rfl⟩ : ∃ m, k = m + 1 := ⟨k - 1, by omega⟩
  by_cases h : n < l.length
  ·
   simp only [impl_IsScore.l0, impl_InRange.ok]
   rw [if_pos (by omega), if_pos (by omega), if_pos (by omega), rdT118 l n h, w1 h hm, List.drop_eq_getElem_cons h]
   simp only [Option.bind_some]
   have ih' := ih k (n + 1) (by omega) (by omega)
   rw [prevAt_next l n h] at ih'
   by_cases c1 : okE l[n]
   ·
    obtain ⟨o1, o2, o3, o4⟩ := id c1
    rw [if_pos (by simpa using o1), if_pos (by simpa using o2), if_pos (by simpa using o3), if_pos (by simpa using o4)]
    by_cases c2 : n = 0
    ·
     subst c2
     rw [if_neg (by omega), ih']
     simp [prevAt, scB, c1]
    have e : wrap64 ((n : Int) - 1) = ((n - 1 : Nat) : Int) := by unfold wrap64; omega
    rw [if_pos (by omega), e, if_pos (by omega), if_pos (by omega), rdT118 l (n - 1) (by omega), impl_eventOrder.ok _ _ k (by omega)]
    simp only [Option.bind_some]
    rw [ih', prevAt_pos l n c2 (by omega)]
    by_cases c3 : before l[n - 1] l[n]
    ·
     have := (ordE_lt l[n - 1] l[n]).2 c3
     rw [if_neg (by omega)]
     simp [scB, c1, c3]
    have := mt (ordE_lt l[n - 1] l[n]).1 c3
    rw [if_pos (by omega)]
    simp [scB, c3]
   have c1' := c1
   unfold okE at c1
   have R : scB (prevAt l n) (l[n] :: l.drop (n + 1)) = false := by cases prevAt l n <;> simp [scB, c1']
   rw [R, Bool.false_and]
   by_cases h1 : 0 ≤ l[n].f0 ∧ l[n].f0 ≤ 2000
   ·
    by_cases h2 : 1 ≤ l[n].f1 ∧ l[n].f1 ≤ 96
    ·
     by_cases h3 : 21 ≤ l[n].f2 ∧ l[n].f2 ≤ 108
     ·
      by_cases h4 : 1 ≤ l[n].f3 ∧ l[n].f3 ≤ 4
      ·
       exact absurd ⟨h1, h2, h3, h4⟩ c1
      rw [if_pos (by simpa using h1), if_pos (by simpa using h2), if_pos (by simpa using h3), if_neg (by simpa using h4)]
     rw [if_pos (by simpa using h1), if_pos (by simpa using h2), if_neg (by simpa using h3)]
    rw [if_pos (by simpa using h1), if_neg (by simpa using h2)]
   rw [if_neg (by simpa using h1)]
  simp only [impl_IsScore.l0]
  rw [if_neg (by omega), List.drop_of_length_le (by omega)]
  have e : ((l.length : Int) ≤ 40) ↔ l.length ≤ 40 := by omega
  simp [scB, e]
theorem impl_IsScore.ok (l : List Evt) (hm : l.length ≤ 9223372036854775807) (k : Nat) (hk : l.length + 4 < k) : impl_IsScore.f k l = some (isScoreB l) := by
 unfold impl_IsScore.f
 exact impl_IsScore.loop l hm l.length k 0 (by omega) hk
abbrev Tmp := S140
def okT : Option Tmp → Tmp → Prop
 | none, e => (20 ≤ e.f1 ∧ e.f1 ≤ 300) ∧ (0 ≤ e.f0 ∧ e.f0 ≤ 2000) ∧ e.f0 = 0
 | some q, e => (20 ≤ e.f1 ∧ e.f1 ≤ 300) ∧ (0 ≤ e.f0 ∧ e.f0 ≤ 2000) ∧ q.f0 < e.f0
instance (p : Option Tmp) (e : Tmp) : Decidable (okT p e) := by cases p <;> (unfold okT; infer_instance)
def tpB : Option Tmp → List Tmp → Bool
 | _, [] => true
 | p, e :: l => decide (okT p e) && tpB (some e) l
def isTempoB (l : List Tmp) : Bool := tpB none l && decide (1 ≤ (l.length : Int) ∧ (l.length : Int) ≤ 8)
def prevT (l : List Tmp) (n : Nat) : Option Tmp := if n = 0 then none else l[n - 1]?
theorem prevT_next (l : List Tmp) (n : Nat) (h : n < l.length) : prevT l (n + 1) = some l[n] := by simp [prevT, h]
theorem prevT_pos (l : List Tmp) (n : Nat) (h0 : n ≠ 0) (h : n - 1 < l.length) : prevT l n = some l[n - 1] := by simp [prevT, h0, h]
theorem spec_IsTempo.loop (l : List Tmp) (hm : l.length ≤ 9223372036854775807) : ∀ (d k n : Nat), l.length - n ≤ d → d < k → spec_IsTempo.l0 k l (n : Int) = some (tpB (prevT l n) (l.drop n) && decide (1 ≤ (l.length : Int) ∧ (l.length : Int) ≤ 8)) := by
 intro d
 induction d with
 | zero =>
  intro k n hd hk
  obtain ⟨k, rfl⟩ : ∃ m, k = m + 1 := ⟨k - 1, by omega⟩
  simp only [spec_IsTempo.l0, spec_l1In.ok, Option.bind_some]
  rw [if_neg (by omega), List.drop_of_length_le (by omega)]
  simp [tpB]
 | succ d ih =>
  intro k n hd hk
  obtain ⟨k, rfl⟩ : ∃ m, k = m + 1 := ⟨k - 1, by omega⟩
  by_cases h : n < l.length
  ·
   simp only [spec_IsTempo.l0, spec_l1In.ok, Option.bind_some]
   rw [if_pos (by omega), if_pos (by omega), rdT140 l n h, w1 h hm, List.drop_eq_getElem_cons h]
   have ih' := ih k (n + 1) (by omega) (by omega)
   rw [prevT_next l n h] at ih'
   by_cases c1 : 20 ≤ l[n].f1 ∧ l[n].f1 ≤ 300
   ·
    by_cases c2 : 0 ≤ l[n].f0 ∧ l[n].f0 ≤ 2000
    ·
     rw [if_pos (by simpa using c1), if_pos (by simpa using c2)]
     by_cases c3 : n = 0
     ·
      subst c3
      by_cases c4 : l[0].f0 = 0
      ·
       rw [if_pos (by omega), if_pos c4, if_neg (by omega), ih']
       simp [prevT, tpB, okT, c1, c4]
      rw [if_pos (by omega), if_neg c4]
      simp [prevT, tpB, okT, c4]
     have e : wrap64 ((n : Int) - 1) = ((n - 1 : Nat) : Int) := by unfold wrap64; omega
     rw [if_neg (by omega), if_pos (by omega), e, if_pos (by omega), if_pos (by omega), rdT140 l (n - 1) (by omega), prevT_pos l n c3 (by omega), ih']
     by_cases c4 : l[n - 1].f0 ≥ l[n].f0
     ·
      rw [if_pos c4]
      have : ¬ l[n - 1].f0 < l[n].f0 := by omega
      simp [tpB, okT, this]
     rw [if_neg c4]
     have : l[n - 1].f0 < l[n].f0 := by omega
     simp [tpB, okT, c1, c2, this]
    rw [if_pos (by simpa using c1), if_neg (by simpa using c2)]
    cases prevT l n <;> simp [tpB, okT, c2]
   rw [if_neg (by simpa using c1)]
   cases prevT l n <;> simp [tpB, okT, c1]
  simp only [spec_IsTempo.l0, spec_l1In.ok, Option.bind_some]
  rw [if_neg (by omega), List.drop_of_length_le (by omega)]
  simp [tpB]
theorem spec_IsTempo.ok (l : List Tmp) (hm : l.length ≤ 9223372036854775807) (k : Nat) (hk : l.length < k) : spec_IsTempo.f k l = some (isTempoB l) := by
 unfold spec_IsTempo.f
 exact spec_IsTempo.loop l hm l.length k 0 (by omega) hk
theorem impl_IsTempo.loop (l : List Tmp) (hm : l.length ≤ 9223372036854775807) : ∀ (d k n : Nat), l.length - n ≤ d → d < k → (∀ q, prevT l n = some q → 0 ≤ q.f0) → impl_IsTempo.l0 k l l l.length (n : Int) = some (tpB (prevT l n) (l.drop n) && decide (1 ≤ (l.length : Int) ∧ (l.length : Int) ≤ 8)) := by
 intro d
 induction d with
 | zero =>
  intro k n hd hk hp
  obtain ⟨k, rfl⟩ : ∃ m, k = m + 1 := ⟨k - 1, by omega⟩
  simp only [impl_IsTempo.l0, impl_InRange.ok, Option.bind_some]
  rw [if_neg (by omega), List.drop_of_length_le (by omega)]
  simp [tpB]
 | succ d ih =>
  intro k n hd hk hp
  obtain ⟨k, rfl⟩ : ∃ m, k = m + 1 := ⟨k - 1, by omega⟩
  by_cases h : n < l.length
  ·
   simp only [impl_IsTempo.l0, impl_InRange.ok, Option.bind_some]
   rw [if_pos (by omega), if_pos (by omega), if_pos (by omega), rdT140 l n h, w1 h hm, List.drop_eq_getElem_cons h]
   have ih' := ih k (n + 1) (by omega) (by omega)
   rw [prevT_next l n h] at ih'
   by_cases c3 : n = 0
   ·
    subst c3
    rw [if_pos (by omega)]
    by_cases c4 : l[0].f0 = 0
    ·
     rw [if_pos c4, if_neg (by omega), if_neg (by omega)]
     by_cases c1 : (20 : Int) ≤ l[0].f1 ∧ l[0].f1 ≤ (300 : Int)
     ·
      rw [if_pos (by simpa using c1), ih' (fun q hq => by obtain rfl := Option.some.inj hq; omega)]
      simp [prevT, tpB, okT, c1, c4]
     rw [if_neg (by simpa using c1)]
     simp [prevT, tpB, okT, c1]
    rw [if_neg c4]
    simp [prevT, tpB, okT, c4]
   have e : wrap64 ((n : Int) - 1) = ((n - 1 : Nat) : Int) := by unfold wrap64; omega
   rw [if_neg (by omega), if_pos (by omega), e, if_pos (by omega), if_pos (by omega), rdT140 l (n - 1) (by omega), prevT_pos l n c3 (by omega)]
   have hq := hp _ (prevT_pos l n c3 (by omega))
   by_cases c4 : l[n - 1].f0 ≥ l[n].f0
   ·
    rw [if_pos c4]
    have : ¬ l[n - 1].f0 < l[n].f0 := by omega
    simp [tpB, okT, this]
   have c5 : l[n - 1].f0 < l[n].f0 := by omega
   rw [if_neg c4]
   by_cases c6 : l[n].f0 > 2000
   ·
    rw [if_pos c6]
    have : ¬ (0 ≤ l[n].f0 ∧ l[n].f0 ≤ 2000) := by omega
    simp [tpB, okT, this]
   rw [if_neg c6]
   by_cases c1 : 20 ≤ l[n].f1 ∧ l[n].f1 ≤ 300
   ·
    rw [if_pos (by simpa using c1), ih' (fun q hq' => by obtain rfl := Option.some.inj hq'; omega)]
    have c2 : 0 ≤ l[n].f0 ∧ l[n].f0 ≤ 2000 := by omega
    simp [tpB, okT, c1, c2, c5]
   rw [if_neg (by simpa using c1)]
   simp [tpB, okT, c1]
  simp only [impl_IsTempo.l0, impl_InRange.ok, Option.bind_some]
  rw [if_neg (by omega), List.drop_of_length_le (by omega)]
  simp [tpB]
theorem impl_IsTempo.ok (l : List Tmp) (hm : l.length ≤ 9223372036854775807) (k : Nat) (hk : l.length < k) : impl_IsTempo.f k l = some (isTempoB l) := by
 unfold impl_IsTempo.f
 exact impl_IsTempo.loop l hm l.length k 0 (by omega) hk (fun q hq => by simp [prevT] at hq)
def gI (n d : Int) : Int := ((Nat.gcd n.natAbs d.natAbs : Nat) : Int)
theorem gI_pos (n d : Int) (hd : 0 < d) : 0 < gI n d := by
 have : 0 < Nat.gcd n.natAbs d.natAbs := Nat.gcd_pos_of_pos_right _ (by omega)
 unfold gI
 omega
theorem gcd_step (a b : Nat) : Nat.gcd b (a % b) = Nat.gcd a b := by rw [Nat.gcd_comm b (a % b), ← Nat.gcd_rec, Nat.gcd_comm]
theorem tmod_nat (a b : Nat) : Int.tmod (a : Int) (b : Int) = ((a % b : Nat) : Int) := rfl
theorem mulB {a b : Int} {A B : Nat} (ha : a.natAbs ≤ A) (hb : b.natAbs ≤ B) : (a * b).natAbs ≤ A * B := by
 rw [Int.natAbs_mul]
 exact Nat.mul_le_mul ha hb
theorem wN {x : Int} (h : x.natAbs ≤ 9223372036854775807) : wrap64 x = x := wid (by omega) (by omega)
theorem tdivB (a b : Int) : (Int.tdiv a b).natAbs ≤ a.natAbs := by
 rw [Int.natAbs_tdiv]
 exact Nat.div_le_self _ _
theorem wT {a b : Int} (h : a.natAbs ≤ 9223372036854775807) : wrap64 (Int.tdiv a b) = Int.tdiv a b := wN (Nat.le_trans (tdivB a b) h)
theorem mxAbs {a : Int} (h : a.natAbs ≤ 9223372036854775807) : mx a (wrap64 (-a)) = (a.natAbs : Int) := by
 unfold mx wrap64
 split <;> omega
theorem spec_l4Gcd.loop : ∀ (m a b k : Nat), b ≤ m → m < k → spec_l4Gcd.l0 k (a : Int) (b : Int) = some ((Nat.gcd a b : Nat) : Int) := by
 intro m
 induction m with
 | zero =>
  intro a b k hb hk
  obtain ⟨k, rfl⟩ : ∃ m, k = m + 1 := ⟨k - 1, by omega⟩
  have : b = 0 := by omega
  subst this
  simp [spec_l4Gcd.l0]
 | succ m ih =>
  intro a b k hb hk
  obtain ⟨k, rfl⟩ : ∃ m, k = m + 1 := ⟨k - 1, by omega⟩
  by_cases h : b = 0
  ·
   subst h
   simp [spec_l4Gcd.l0]
  have hlt : a % b < b := Nat.mod_lt _ (by omega)
  simp only [spec_l4Gcd.l0]
  rw [if_neg (by omega), tmod_nat, ih b (a % b) k (by omega) (by omega), gcd_step]
theorem impl_divisor.loop : ∀ (m a b k : Nat), b ≤ m → m < k → impl_divisor.l0 k (a : Int) (b : Int) = some ((Nat.gcd a b : Nat) : Int) := by
 intro m
 induction m with
 | zero =>
  intro a b k hb hk
  obtain ⟨k, rfl⟩ : ∃ m, k = m + 1 := ⟨k - 1, by omega⟩
  have : b = 0 := by omega
  subst this
  simp [impl_divisor.l0]
 | succ m ih =>
  intro a b k hb hk
  obtain ⟨k, rfl⟩ : ∃ m, k = m + 1 := ⟨k - 1, by omega⟩
  by_cases h : b = 0
  ·
   subst h
   simp [impl_divisor.l0]
  have hlt : a % b < b := Nat.mod_lt _ (by omega)
  simp only [impl_divisor.l0]
  rw [if_neg (by omega), tmod_nat, ih b (a % b) k (by omega) (by omega), gcd_step]
theorem spec_l4Gcd.ok (n d : Int) (hd : 0 ≤ d) (k : Nat) (hk : d.natAbs < k) : spec_l4Gcd.f k (n.natAbs : Int) d = some (gI n d) := by
 obtain ⟨m, rfl⟩ := Int.eq_ofNat_of_zero_le hd
 exact spec_l4Gcd.loop m n.natAbs m k (Nat.le_refl m) (by simpa using hk)
theorem spec_l4Gcd.ok' (n d : Int) (hn : 0 ≤ n) (hd : 0 ≤ d) (k : Nat) (hk : d.natAbs < k) : spec_l4Gcd.f k n d = some (gI n d) := by
 rw [← spec_l4Gcd.ok n d hd k hk]
 congr 1
 omega
theorem impl_divisor.ok (n d : Int) (hd : 0 ≤ d) (k : Nat) (hk : d.natAbs < k) : impl_divisor.f k (n.natAbs : Int) d = some (gI n d) := by
 obtain ⟨m, rfl⟩ := Int.eq_ofNat_of_zero_le hd
 exact impl_divisor.loop m n.natAbs m k (Nat.le_refl m) (by simpa using hk)
theorem spec_l4Abs.ok (a : Int) (h : a.natAbs ≤ 9223372036854775807) : spec_l4Abs.f a = some (a.natAbs : Int) := by
 unfold spec_l4Abs.f
 have e := @wN (-a) (by omega)
 rw [e]
 split
 ·
  congr 1
  omega
 congr 1
 omega
def isRB (n d : Int) : Bool := decide (1 ≤ d ∧ d ≤ 1000000) && (decide (-1000000000 ≤ n ∧ n ≤ 1000000000) && (gI n d == 1))
theorem isRB_b {n d : Int} (h : isRB n d = true) : (1 ≤ d ∧ d ≤ 1000000) ∧ (-1000000000 ≤ n ∧ n ≤ 1000000000) ∧ gI n d = 1 := by
 unfold isRB at h
 simp only [Bool.and_eq_true, decide_eq_true_eq, beq_iff_eq] at h
 exact h
theorem spec_IsRatio.ok (n d : Int) (k : Nat) (hk : 1000000 < k) : spec_IsRatio.f k n d = some (isRB n d) := by
 unfold spec_IsRatio.f isRB
 rw [spec_l1In.ok, spec_l1In.ok]
 simp only [Option.bind_some]
 by_cases c1 : (1 : Int) ≤ d ∧ d ≤ 1000000
 ·
  by_cases c2 : (-1000000000 : Int) ≤ n ∧ n ≤ 1000000000
  ·
   rw [if_pos (by simpa using c1), if_pos (by simpa using c2), spec_l4Abs.ok n (by omega)]
   simp only [Option.bind_some]
   rw [spec_l4Gcd.ok n d (by omega) k (by omega)]
   simp [c1, c2]
  rw [if_pos (by simpa using c1), if_neg (by simpa using c2)]
  simp only [c2, decide_false, Bool.false_and, Bool.and_false]
 rw [if_neg (by simpa using c1)]
 simp only [c1, decide_false, Bool.false_and]
theorem impl_IsRatio.ok (n d : Int) (k : Nat) (hk : 1000000 < k) : impl_IsRatio.f k n d = some (isRB n d) := by
 unfold impl_IsRatio.f isRB
 rw [impl_InRange.ok, impl_InRange.ok]
 simp only [Option.bind_some]
 by_cases c1 : (1 : Int) ≤ d ∧ d ≤ 1000000
 ·
  by_cases c2 : (-1000000000 : Int) ≤ n ∧ n ≤ 1000000000
  ·
   rw [if_pos (by simpa using c1), if_pos (by simpa using c2), mxAbs (by omega)]
   rw [impl_divisor.ok n d (by omega) k (by omega)]
   simp [c1, c2]
  rw [if_pos (by simpa using c1), if_neg (by simpa using c2)]
  simp only [c2, decide_false, Bool.false_and, Bool.and_false]
 rw [if_neg (by simpa using c1)]
 simp only [c1, decide_false, Bool.false_and]
def noR : Int × Int × Bool := (0, 0, false)
def lowC (n d : Int) : Int × Int × Bool := if isRB (Int.tdiv n (gI n d)) (Int.tdiv d (gI n d)) = true then (Int.tdiv n (gI n d), Int.tdiv d (gI n d), true) else noR
def lowP (n d : Int) : Int × Int × Bool := if d < 0 then lowC (-n) (-d) else (if d = 0 then noR else lowC n d)
theorem lowC_scale (g n d : Int) (hg : 0 < g) : lowC (g * n) (g * d) = lowC n d := by
 have e : gI (g * n) (g * d) = g * gI n d := by
  unfold gI
  rw [Int.natAbs_mul, Int.natAbs_mul, Nat.gcd_mul_left, Int.natCast_mul]
  congr 1
  omega
 unfold lowC
 rw [e, Int.mul_tdiv_mul_of_pos _ _ hg, Int.mul_tdiv_mul_of_pos _ _ hg]
theorem impl_lowest.j0_ok (n d : Int) (hn : n.natAbs ≤ 1000000000000000000) (hd : 0 ≤ d) (hd' : d ≤ 1000000000000000) (k : Nat) (hk : 1000000000000001 < k) : impl_lowest.j0 k n d = some (if d = 0 then noR else lowC n d) := by
 obtain ⟨k, rfl⟩ : ∃ m, k = m + 1 := ⟨k - 1, by omega⟩
 simp only [impl_lowest.j0]
 by_cases h0 : d = 0
 ·
  rw [if_pos h0, if_pos h0]
  rfl
 have hg := gI_pos n d (by omega)
 rw [if_neg h0, if_neg h0, mxAbs (by omega), impl_divisor.ok n d hd k (by omega)]
 simp only [Option.bind_some]
 rw [if_neg (by omega), wT (by omega), wT (by omega), impl_IsRatio.ok _ _ k (by omega)]
 simp only [Option.bind_some]
 unfold lowC noR
 split <;> rfl
theorem impl_lowest.ok (n d : Int) (hn : n.natAbs ≤ 1000000000000000000) (hd : d.natAbs ≤ 1000000000000000) (k : Nat) (hk : 1000000000000001 < k) : impl_lowest.f k n d = some (lowP n d) := by
 unfold impl_lowest.f lowP
 by_cases h : d < 0
 ·
  rw [if_pos h, if_pos h, @wN (-n) (by omega), @wN (-d) (by omega), impl_lowest.j0_ok (-n) (-d) (by omega) (by omega) (by omega) k hk, if_neg (by omega)]
 rw [if_neg h, if_neg h, impl_lowest.j0_ok n d hn (by omega) (by omega) k hk]
def makeR (n d : Int) : Int × Int × Bool := if ((-1000000000000000 : Int) ≤ n ∧ n ≤ 1000000000000000) ∧ ((-1000000000000000 : Int) ≤ d ∧ d ≤ 1000000000000000) then lowP n d else noR
theorem impl_MakeRatio.ok (n d : Int) (k : Nat) (hk : 1000000000000001 < k) : impl_MakeRatio.f k n d = some (makeR n d) := by
 unfold impl_MakeRatio.f makeR
 rw [impl_InRange.ok, impl_InRange.ok]
 simp only [Option.bind_some]
 by_cases c1 : (-1000000000000000 : Int) ≤ n ∧ n ≤ 1000000000000000
 ·
  by_cases c2 : (-1000000000000000 : Int) ≤ d ∧ d ≤ 1000000000000000
  ·
   rw [if_pos (by simpa using c1), if_pos (by simpa using c2), if_pos ⟨c1, c2⟩, impl_lowest.ok n d (by omega) (by omega) k hk]
   rfl
  rw [if_pos (by simpa using c1), if_neg (by simpa using c2), if_neg (fun h => c2 h.2)]
  rfl
 rw [if_neg (by simpa using c1), if_neg (fun h => c1 h.1)]
 rfl
theorem spec_MakeRatio.j1_ok (n d : Int) (hn : n.natAbs ≤ 1000000000000000000) (hd : 0 < d) (hd' : d ≤ 1000000000000000) (k : Nat) (hk : 1000000000000001 < k) : spec_MakeRatio.j1 k n d = some (lowC n d) := by
 obtain ⟨k, rfl⟩ : ∃ m, k = m + 1 := ⟨k - 1, by omega⟩
 have hg := gI_pos n d (by omega)
 simp only [spec_MakeRatio.j1]
 rw [spec_l4Abs.ok n (by omega)]
 simp only [Option.bind_some]
 rw [spec_l4Gcd.ok n d (by omega) k (by omega)]
 simp only [Option.bind_some]
 rw [if_neg (by omega), wT (by omega), wT (by omega), spec_IsRatio.ok _ _ k (by omega)]
 simp only [Option.bind_some]
 unfold lowC noR
 split <;> rfl
theorem spec_MakeRatio.ok (n d : Int) (k : Nat) (hk : 1000000000000002 < k) : spec_MakeRatio.f k n d = some (makeR n d) := by
 obtain ⟨k, rfl⟩ : ∃ m, k = m + 1 := ⟨k - 1, by omega⟩
 unfold spec_MakeRatio.f makeR
 rw [spec_l1In.ok, spec_l1In.ok]
 simp only [Option.bind_some, spec_MakeRatio.j0]
 by_cases c1 : (-1000000000000000 : Int) ≤ n ∧ n ≤ 1000000000000000
 ·
  by_cases c2 : (-1000000000000000 : Int) ≤ d ∧ d ≤ 1000000000000000
  ·
   have hc : ((-1000000000000000 : Int) ≤ n ∧ n ≤ 1000000000000000) ∧ ((-1000000000000000 : Int) ≤ d ∧ d ≤ 1000000000000000) := ⟨c1, c2⟩
   rw [if_pos (by simpa using c1), if_pos (by simpa using c2), if_pos hc]
   unfold lowP
   by_cases h0 : d = 0
   ·
    have h0' : (d == 0) = true := by simpa using h0
    rw [if_pos h0', if_neg (by omega), if_pos h0]
    rfl
   have h0' : ¬ (d == 0) = true := by simpa using h0
   rw [if_neg h0']
   by_cases h : d < 0
   ·
    rw [if_pos h, if_pos h, @wN (-n) (by omega), @wN (-d) (by omega), spec_MakeRatio.j1_ok (-n) (-d) (by omega) (by omega) (by omega) k (by omega)]
   rw [if_neg h, if_neg h, if_neg h0, spec_MakeRatio.j1_ok n d (by omega) (by omega) (by omega) k (by omega)]
  have hc : ¬ (((-1000000000000000 : Int) ≤ n ∧ n ≤ 1000000000000000) ∧ ((-1000000000000000 : Int) ≤ d ∧ d ≤ 1000000000000000)) := fun h => c2 h.2
  rw [if_pos (by simpa using c1), if_neg (by simpa using c2), if_neg hc, if_pos trivial]
  rfl
 have hc : ¬ (((-1000000000000000 : Int) ≤ n ∧ n ≤ 1000000000000000) ∧ ((-1000000000000000 : Int) ≤ d ∧ d ≤ 1000000000000000)) := fun h => c1 h.1
 rw [if_neg (by simpa using c1), if_neg hc, if_pos trivial]
 rfl
theorem lowC_no {n d : Int} (h : (lowC n d).2.2 = false) : lowC n d = noR := by
 unfold lowC at *
 split at h
 ·
  simp at h
 rename_i c
 rw [if_neg c]
theorem makeR_no {n d : Int} (h : (makeR n d).2.2 = false) : makeR n d = noR := by
 unfold makeR lowP at *
 split at h
 ·
  rename_i c
  rw [if_pos c]
  split at h
  ·
   rename_i c
   rw [if_pos c]
   exact lowC_no h
  rename_i c
  rw [if_neg c]
  split at h
  ·
   rename_i c
   rw [if_pos c]
  rename_i c
  rw [if_neg c]
  exact lowC_no h
 rename_i c
 rw [if_neg c]
def addR (an ad bn bd : Int) : Int × Int × Bool := if isRB an ad = true ∧ isRB bn bd = true then lowP (an * bd + bn * ad) (ad * bd) else noR
theorem impl_AddRatio.ok (an ad bn bd : Int) (k : Nat) (hk : 1000000000000001 < k) : impl_AddRatio.f k an ad bn bd = some (addR an ad bn bd) := by
 unfold impl_AddRatio.f addR
 rw [impl_IsRatio.ok an ad k (by omega), impl_IsRatio.ok bn bd k (by omega)]
 simp only [Option.bind_some]
 by_cases h1 : isRB an ad = true
 ·
  by_cases h2 : isRB bn bd = true
  ·
   obtain ⟨a1, a2, a3⟩ := isRB_b h1
   obtain ⟨b1, b2, b3⟩ := isRB_b h2
   have m1 : (an * bd).natAbs ≤ 1000000000 * 1000000 := mulB (by omega) (by omega)
   have m2 : (bn * ad).natAbs ≤ 1000000000 * 1000000 := mulB (by omega) (by omega)
   have m3 : (ad * bd).natAbs ≤ 1000000 * 1000000 := mulB (by omega) (by omega)
   rw [if_pos h1, if_pos h2, if_pos ⟨h1, h2⟩, wN (x := an * bd) (by omega), wN (x := bn * ad) (by omega), wN (x := ad * bd) (by omega), wN (x := an * bd + bn * ad) (by omega), impl_lowest.ok _ _ (by omega) (by omega) k hk]
   rfl
  rw [if_pos h1, if_neg h2, if_neg (fun h => h2 h.2)]
  rfl
 rw [if_neg h1, if_neg (fun h => h1 h.1)]
 rfl
theorem posR {g x : Int} (hg : 0 < g) (h : 0 < g * x) : 0 < x := by
 by_cases hx : 0 < x
 ·
  exact hx
 exfalso
 have : g * x ≤ g * 0 := Int.mul_le_mul_of_nonneg_left (by omega) (by omega)
 rw [Int.mul_zero] at this
 omega
theorem gI_dvd_left (n d : Int) : gI n d ∣ n := by
 unfold gI
 exact Int.ofNat_dvd_left.mpr (Nat.gcd_dvd_left _ _)
theorem gI_dvd_right (n d : Int) : gI n d ∣ d := by
 unfold gI
 exact Int.ofNat_dvd_left.mpr (Nat.gcd_dvd_right _ _)
theorem spec_AddRatio.ok (an ad bn bd : Int) (k : Nat) (hk : 1000000000000002 < k) : spec_AddRatio.f k an ad bn bd = some (addR an ad bn bd) := by
 obtain ⟨k, rfl⟩ : ∃ m, k = m + 1 := ⟨k - 1, by omega⟩
 unfold spec_AddRatio.f addR
 rw [spec_IsRatio.ok an ad _ (by omega), spec_IsRatio.ok bn bd _ (by omega)]
 simp only [Option.bind_some, spec_AddRatio.j0]
 by_cases h1 : isRB an ad = true
 ·
  by_cases h2 : isRB bn bd = true
  ·
   obtain ⟨a1, a2, a3⟩ := isRB_b h1
   obtain ⟨b1, b2, b3⟩ := isRB_b h2
   have hg := gI_pos ad bd (by omega)
   have d1 := Int.mul_tdiv_cancel' (gI_dvd_left ad bd)
   have d2 := Int.mul_tdiv_cancel' (gI_dvd_right ad bd)
   have t1 := tdivB ad (gI ad bd)
   have t2 := tdivB bd (gI ad bd)
   have hp : 0 < Int.tdiv ad (gI ad bd) * bd := by
    have : 0 < gI ad bd * Int.tdiv ad (gI ad bd) := by omega
    exact Int.mul_pos (posR hg this) (by omega)
   rw [if_pos h1, if_neg (by rw [h2]; simp), if_pos ⟨h1, h2⟩, spec_l4Gcd.ok' ad bd (by omega) (by omega) k (by omega)]
   simp only [Option.bind_some]
   rw [if_neg (by omega), wT (by omega), wT (by omega)]
   have e1 : an * bd + bn * ad = gI ad bd * (an * Int.tdiv bd (gI ad bd) + bn * Int.tdiv ad (gI ad bd)) := by
    rw [Int.mul_add, ← Int.mul_assoc, ← Int.mul_assoc, Int.mul_comm (gI ad bd) an, Int.mul_comm (gI ad bd) bn, Int.mul_assoc, Int.mul_assoc, d1, d2]
   have e2 : ad * bd = gI ad bd * (Int.tdiv ad (gI ad bd) * bd) := by rw [← Int.mul_assoc, d1]
   have hd : ¬ ad * bd < 0 := by
    have := Int.mul_pos (show 0 < ad by omega) (show 0 < bd by omega)
    omega
   have hd' : ¬ ad * bd = 0 := by
    have := Int.mul_pos (show 0 < ad by omega) (show 0 < bd by omega)
    omega
   unfold lowP
   rw [if_neg hd, if_neg hd', e1, e2, lowC_scale _ _ _ hg]
   generalize hx : Int.tdiv ad (gI ad bd) = x at *
   generalize hy : Int.tdiv bd (gI ad bd) = y at *
   have m1 : (an * y).natAbs ≤ 1000000000 * 1000000 := mulB (by omega) (by omega)
   have m2 : (bn * x).natAbs ≤ 1000000000 * 1000000 := mulB (by omega) (by omega)
   have m3 : (x * bd).natAbs ≤ 1000000 * 1000000 := mulB (by omega) (by omega)
   rw [wN (x := an * y) (by omega), wN (x := bn * x) (by omega), wN (x := x * bd) (by omega), wN (x := an * y + bn * x) (by omega), spec_l4Abs.ok _ (by omega)]
   simp only [Option.bind_some]
   rw [spec_l4Gcd.ok _ _ (by omega) k (by omega)]
   simp only [Option.bind_some]
   have hg' := gI_pos (an * y + bn * x) (x * bd) hp
   rw [if_neg (by omega), wT (by omega), wT (by omega), spec_IsRatio.ok _ _ k (by omega)]
   simp only [Option.bind_some]
   unfold lowC noR
   split <;> rfl
  rw [if_pos h1, if_pos (by simpa using h2), if_neg (fun h => h2 h.2)]
  rfl
 rw [if_neg h1, if_pos trivial, if_neg (fun h => h1 h.1)]
 rfl
theorem addR_noR (an ad : Int) : addR an ad 0 0 = noR := by
 unfold addR
 rw [if_neg]
 intro h
 have := isRB_b h.2
 omega
def endT (t : Int) : List Tmp → Int
 | [] => t
 | f :: _ => mn t f.f0
def partT (t : Int) (e : Tmp) (l : List Tmp) : Int × Int × Bool := makeR (wrap64 (wrap64 (endT t l - e.f0) * 5000)) e.f1
def timeL (t : Int) : Int → Int → List Tmp → Int × Int × Bool
 | n, d, [] => (n, d, true)
 | n, d, e :: l => if e.f0 < t then (if (addR n d (partT t e l).1 (partT t e l).2.1).2.2 = true then timeL t (addR n d (partT t e l).1 (partT t e l).2.1).1 (addR n d (partT t e l).1 (partT t e l).2.1).2.1 l else noR) else (n, d, true)
def timeOf (l : List Tmp) (t : Int) : Int × Int × Bool := if isTempoB l = true ∧ (0 ≤ t ∧ t ≤ 2000) then timeL t 0 1 l else noR
theorem tpB_lt : ∀ (l : List Tmp) (p : Option Tmp), tpB p l = true → ∀ i (h : i + 1 < l.length), (l[i]'(by omega)).f0 < l[i + 1].f0 := by
 intro l
 induction l with
 | nil => intro p hp i h; simp at h
 | cons e l ih =>
  intro p hp i h
  simp only [tpB, Bool.and_eq_true, decide_eq_true_eq] at hp
  cases i with
  | zero =>
   cases l with
   | nil => simp at h
   | cons f l =>
    have h2 := hp.2
    simp only [tpB, Bool.and_eq_true] at h2
    have h3 : (20 ≤ f.f1 ∧ f.f1 ≤ 300) ∧ (0 ≤ f.f0 ∧ f.f0 ≤ 2000) ∧ e.f0 < f.f0 := of_decide_eq_true h2.1
    simpa using h3.2.2
  | succ i => exact ih _ hp.2 i (by simpa using h)
theorem isTempoB_lt {l : List Tmp} (hs : isTempoB l = true) (i : Nat) (h : i + 1 < l.length) : (l[i]'(by omega)).f0 < l[i + 1].f0 := by
 unfold isTempoB at hs
 simp only [Bool.and_eq_true] at hs
 exact tpB_lt l none hs.1 i h
theorem endT_drop (t : Int) (l : List Tmp) (n : Nat) : endT t (l.drop n) = if h : n < l.length then mn t l[n].f0 else t := by
 by_cases h : n < l.length
 ·
  rw [dif_pos h, List.drop_eq_getElem_cons h]
  rfl
 rw [dif_neg h, List.drop_of_length_le (by omega)]
 rfl
theorem spec_Min.ok' (a b : Int) : spec_Min.f a b = some (mn a b) := by
 unfold spec_Min.f mn
 by_cases h : b < a <;> simp [h]
theorem spec_TimeOf.loop (l : List Tmp) (t : Int) (hm : l.length ≤ 1048576) : ∀ (d k n : Nat) (a b : Int), l.length - n ≤ d → 3 * d + 1000000000000010 < k → spec_TimeOf.l0 k l t (n : Int) a b = some (timeL t a b (l.drop n)) := by
 intro d
 induction d with
 | zero =>
  intro k n a b hd hk
  obtain ⟨k, rfl⟩ : ∃ m, k = m + 2 := ⟨k - 2, by omega⟩
  simp only [spec_TimeOf.l0, spec_TimeOf.j2]
  rw [if_neg (by omega), List.drop_of_length_le (by omega)]
  simp [timeL]
 | succ d ih =>
  intro k n a b hd hk
  obtain ⟨k, rfl⟩ : ∃ m, k = m + 3 := ⟨k - 3, by omega⟩
  by_cases h : n < l.length
  ·
   simp only [spec_TimeOf.l0]
   rw [if_pos (by omega), if_pos (by omega), rdT140 l n h, List.drop_eq_getElem_cons h]
   simp only [spec_TimeOf.j2, timeL]
   by_cases c : l[n].f0 < t
   ·
    have e : (if wrap64 ((n : Int) + 1) < (l.length : Int) then (if 0 ≤ wrap64 ((n : Int) + 1) then (spec_Min.f t (rd_T140 l (wrap64 ((n : Int) + 1))).f0).bind fun x => spec_TimeOf.j3 (k + 1) l t n x a b else none) else spec_TimeOf.j3 (k + 1) l t n t a b) = spec_TimeOf.j3 (k + 1) l t n (endT t (l.drop (n + 1))) a b := by
     rw [w1 h (by omega), endT_drop]
     by_cases h' : n + 1 < l.length
     ·
      rw [if_pos (by omega), if_pos (by omega), rdT140 l (n + 1) h', spec_Min.ok', dif_pos h']
      rfl
     rw [if_neg (by omega), dif_neg h']
    rw [if_pos (by simpa using c), e, if_pos c]
    simp only [spec_TimeOf.j3]
    rw [if_pos (by omega), if_pos (by omega), rdT140 l n h, spec_MakeRatio.ok _ _ k (by omega)]
    have e2 : makeR (wrap64 (wrap64 (endT t (l.drop (n + 1)) - l[n].f0) * 5000)) l[n].f1 = partT t l[n] (l.drop (n + 1)) := rfl
    rw [e2]
    simp only [Option.bind_some]
    rw [spec_AddRatio.ok _ _ _ _ k (by omega)]
    simp only [Option.bind_some]
    rw [w1 h (by omega), ih k (n + 1) _ _ (by omega) (by omega)]
    unfold noR
    split <;> rfl
   rw [if_neg (by simpa using c), if_neg c]
  simp only [spec_TimeOf.l0, spec_TimeOf.j2]
  rw [if_neg (by omega), List.drop_of_length_le (by omega)]
  simp [timeL]
theorem spec_TimeOf.ok (l : List Tmp) (t : Int) (hm : l.length ≤ 1048576) (k : Nat) (hk : 3 * l.length + 1000000000000020 < k) : spec_TimeOf.f k l t = some (timeOf l t) := by
 obtain ⟨k, rfl⟩ : ∃ m, k = m + 1 := ⟨k - 1, by omega⟩
 unfold spec_TimeOf.f timeOf
 rw [spec_IsTempo.ok l (by omega) _ (by omega), spec_l1In.ok]
 simp only [Option.bind_some, spec_TimeOf.j0]
 have hl := spec_TimeOf.loop l t hm l.length k 0 0 1 (by omega) (by omega)
 simp only [List.drop_zero] at hl
 by_cases hs : isTempoB l = true
 ·
  by_cases hr : (0 : Int) ≤ t ∧ t ≤ 2000
  ·
   simp only [hs, hr, and_self, decide_true, Bool.not_true, Bool.false_eq_true, if_true, if_false]
   exact hl
  simp [hs, hr, noR]
 simp [hs, noR]
theorem impl_TimeOf.loop (l : List Tmp) (t : Int) (hm : l.length ≤ 1048576) (hs : isTempoB l = true) : ∀ (d k n : Nat) (a b : Int), l.length - n ≤ d → 3 * d + 1000000000000010 < k → impl_TimeOf.l0 k l t l l.length (n : Int) a b = some (timeL t a b (l.drop n)) := by
 intro d
 induction d with
 | zero =>
  intro k n a b hd hk
  obtain ⟨k, rfl⟩ : ∃ m, k = m + 2 := ⟨k - 2, by omega⟩
  simp only [impl_TimeOf.l0]
  rw [if_neg (by omega), List.drop_of_length_le (by omega)]
  simp [timeL]
 | succ d ih =>
  intro k n a b hd hk
  obtain ⟨k, rfl⟩ : ∃ m, k = m + 2 := ⟨k - 2, by omega⟩
  by_cases h : n < l.length
  ·
   simp only [impl_TimeOf.l0]
   rw [if_pos (by omega), if_pos (by omega), if_pos (by omega), rdT140 l n h, List.drop_eq_getElem_cons h]
   have e : (if wrap64 ((n : Int) + 1) < (l.length : Int) then (if 0 ≤ wrap64 ((n : Int) + 1) then impl_TimeOf.j2 (k + 1) l t (mn t (rd_T140 l (wrap64 ((n : Int) + 1))).f0) l l.length n a b l[n].f0 l[n].f1 else none) else impl_TimeOf.j2 (k + 1) l t t l l.length n a b l[n].f0 l[n].f1) = impl_TimeOf.j2 (k + 1) l t (endT t (l.drop (n + 1))) l l.length n a b l[n].f0 l[n].f1 := by
    rw [w1 h (by omega), endT_drop]
    by_cases h' : n + 1 < l.length
    ·
     rw [if_pos (by omega), if_pos (by omega), rdT140 l (n + 1) h', dif_pos h']
    rw [if_neg (by omega), dif_neg h']
   rw [e]
   simp only [impl_TimeOf.j2, timeL]
   have hc : endT t (l.drop (n + 1)) ≤ l[n].f0 ↔ ¬ l[n].f0 < t := by
    rw [endT_drop]
    by_cases h' : n + 1 < l.length
    ·
     rw [dif_pos h']
     have := isTempoB_lt hs n h'
     unfold mn
     split <;> omega
    rw [dif_neg h']
    omega
   by_cases c : l[n].f0 < t
   ·
    rw [if_neg (fun h => hc.mp h c), if_pos c, impl_MakeRatio.ok _ _ k (by omega)]
    have e2 : makeR (wrap64 (wrap64 (endT t (l.drop (n + 1)) - l[n].f0) * 5000)) l[n].f1 = partT t l[n] (l.drop (n + 1)) := rfl
    rw [e2]
    simp only [Option.bind_some]
    rw [impl_AddRatio.ok _ _ _ _ k (by omega)]
    simp only [Option.bind_some]
    rw [w1 h (by omega), ih k (n + 1) _ _ (by omega) (by omega)]
    by_cases c2 : (partT t l[n] (l.drop (n + 1))).2.2 = true
    ·
     rw [if_pos c2]
     unfold noR
     split <;> rfl
    have c3 : (partT t l[n] (l.drop (n + 1))).2.2 = false := by simpa using c2
    have e3 : partT t l[n] (l.drop (n + 1)) = noR := makeR_no c3
    rw [if_neg c2, e3, show noR.1 = 0 from rfl, show noR.2.1 = 0 from rfl, addR_noR]
    rfl
   rw [if_pos (hc.mpr c), if_neg c]
  simp only [impl_TimeOf.l0]
  rw [if_neg (by omega), List.drop_of_length_le (by omega)]
  simp [timeL]
theorem impl_TimeOf.ok (l : List Tmp) (t : Int) (hm : l.length ≤ 1048576) (k : Nat) (hk : 3 * l.length + 1000000000000020 < k) : impl_TimeOf.f k l t = some (timeOf l t) := by
 obtain ⟨k, rfl⟩ : ∃ m, k = m + 1 := ⟨k - 1, by omega⟩
 unfold impl_TimeOf.f timeOf
 rw [impl_IsTempo.ok l (by omega) _ (by omega), impl_InRange.ok]
 simp only [Option.bind_some, impl_TimeOf.j0]
 by_cases hs : isTempoB l = true
 ·
  have hl := impl_TimeOf.loop l t hm hs l.length k 0 0 1 (by omega) (by omega)
  simp only [List.drop_zero] at hl
  by_cases hr : (0 : Int) ≤ t ∧ t ≤ 2000
  ·
   simp only [hs, hr, and_self, decide_true, Bool.not_true, Bool.false_eq_true, if_true, if_false]
   exact hl
  simp [hs, hr, noR]
 simp [hs, noR]
end Go.Proofs.Ytiophiipmgpaeaa.F

namespace Go.Proofs.Ytiophiipmgpaeaa.F
open Go.RowKit Go.Proofs.YtiophiipmgpaeaaW.PrintWords Go.Proofs.YtiophiipmgpaeaaW.PrintLast Go.Proofs.YtiophiipmgpaeaaW.PrintMore
attribute [local go_sem] max2_int min2_int max_two min_two max_three min_three max_four min_four
set_option linter.unusedVariables false
set_option linter.unusedSimpArgs false
def spec_IsPerformance.T4 : Bool × List (List Nat × List Nat) := (true, [([], []), ([], []), ([0, 1], [0, 1]), ([2], [2]), ([3], [3]), ([4], [4]), ([5], [5]), ([6, 5], [6]), ([7], [7]), ([7], [7]), ([8, 9, 7], [7, 8, 9]), ([10, 7], [7, 10]), ([11, 7], [7, 11]), ([12, 7, 7], [7, 12]), ([13, 7], [7, 13]), ([7, 14], [7, 14]), ([15, 13], [15]), ([16], [16]), ([17, 16], [16, 17]), ([18, 16, 16], [16, 18]), ([19], [19]), ([19], [19]), ([21, 19], [19, 21]), ([20, 22, 19], [19, 20, 22]), ([23, 19], [19, 23]), ([24, 19], [19, 24]), ([19], [19]), ([19], [19]), ([26, 27, 19], [19, 26, 27]), ([28, 19], [19, 28]), ([29, 19], [19, 29]), ([25, 30, 19], [19, 25, 30]), ([31, 19, 19], [19, 31]), ([32], [32]), ([32], [32]), ([34, 32], [32, 34]), ([33, 35, 32], [32, 33, 35]), ([36, 32], [32, 36]), ([37, 32], [32, 37]), ([32], [32]), ([32], [32]), ([39, 40, 32], [32, 39, 40]), ([41, 32], [32, 41]), ([42, 32], [32, 42]), ([38, 43, 32], [32, 38, 43]), ([44, 32, 32], [32, 44]), ([45], [45]), ([45], [45]), ([47, 45], [45, 47]), ([46, 48, 45], [45, 46, 48]), ([49, 45], [45, 49]), ([50, 45], [45, 50]), ([45], [45]), ([45], [45]), ([52, 53, 45], [45, 52, 53]), ([54, 45], [45, 54]), ([55, 45], [45, 55]), ([51, 56, 45], [45, 51, 56]), ([45, 57, 32], [32, 45, 57]), ([32, 58, 19], [19, 32, 58]), ([19, 59, 16], [16, 19, 59]), ([16, 60], [16, 60])])
def spec_IsPerformance.B4 : List Nat := [0, 0, 3, 7, 15, 31, 63, 127, 255, 255, 1023, 2047, 4095, 8191, 16383, 32767, 65535, 131071, 262143, 524287, 1048575, 1048575, 3145727, 8388607, 16777215, 33554431, 1048575, 1048575, 202375167, 470810623, 1007681535, 2147483647, 4294967295, 8589934591, 8589934591, 25769803775, 68719476735, 137438953471, 274877906943, 8589934591, 8589934591, 1657857376255, 3856880631807, 8254927142911, 17592186044415, 35184372088831, 70368744177663, 70368744177663, 211106232532991, 562949953421311, 1125899906842623, 2251799813685247, 70368744177663, 70368744177663, 13581167626289151, 31595566135771135, 67624363154735103, 144115188075855871, 288230376151711743, 576460752303423487, 1152921504606846975, 2305843009213693951]
theorem spec_IsPerformance.tab4 : rtab .any (opsOf Try.f84 4) = spec_IsPerformance.T4 := by kernel_rfl
theorem spec_IsPerformance.bits4 : waitsOk spec_IsPerformance.T4.2 spec_IsPerformance.B4 = true := by kernel_rfl
end Go.Proofs.Ytiophiipmgpaeaa.F

namespace Go.Proofs.Ytiophiipmgpaeaa.F
open Go.RowKit Go.Proofs.YtiophiipmgpaeaaW.PrintWords Go.Proofs.YtiophiipmgpaeaaW.PrintLast Go.Proofs.YtiophiipmgpaeaaW.PrintMore
attribute [local go_sem] max2_int min2_int max_two min_two max_three min_three max_four min_four
set_option linter.unusedVariables false
set_option linter.unusedSimpArgs false
def impl_IsPerformance.T4 : Bool × List (List Nat × List Nat) := (true, [([], []), ([0], [0]), ([1], [1]), ([2], [2]), ([3, 2], [3]), ([4], [4]), ([5, 4], [4, 5]), ([6, 4, 4], [4, 6]), ([7, 4], [4, 7]), ([4, 8], [4, 8]), ([9, 7], [9]), ([10], [10]), ([11, 10], [10, 11]), ([12, 10, 10], [10, 12]), ([13], [13]), ([13], [13]), ([15, 13], [13, 15]), ([14, 16, 13], [13, 14, 16]), ([17, 13], [13, 17]), ([18, 13], [13, 18]), ([13], [13]), ([20, 13], [13, 20]), ([19, 21, 13], [13, 19, 21]), ([22, 13, 13], [13, 22]), ([23], [23]), ([23], [23]), ([25, 23], [23, 25]), ([24, 26, 23], [23, 24, 26]), ([27, 23], [23, 27]), ([28, 23], [23, 28]), ([23], [23]), ([30, 23], [23, 30]), ([29, 31, 23], [23, 29, 31]), ([32, 23, 23], [23, 32]), ([33], [33]), ([33], [33]), ([35, 33], [33, 35]), ([34, 36, 33], [33, 34, 36]), ([37, 33], [33, 37]), ([38, 33], [33, 38]), ([33], [33]), ([40, 33], [33, 40]), ([39, 41, 33], [33, 39, 41]), ([33, 42, 23], [23, 33, 42]), ([23, 43, 13], [13, 23, 43]), ([13, 44, 10], [10, 13, 44]), ([10, 45], [10, 45])])
def impl_IsPerformance.B4 : List Nat := [0, 1, 3, 7, 15, 31, 63, 127, 255, 511, 1023, 2047, 4095, 8191, 16383, 16383, 49151, 131071, 262143, 524287, 16383, 1064959, 4194303, 8388607, 16777215, 16777215, 50331647, 134217727, 268435455, 536870911, 16777215, 1090519039, 4294967295, 8589934591, 17179869183, 17179869183, 51539607551, 137438953471, 274877906943, 549755813887, 17179869183, 1116691496959, 4398046511103, 8796093022207, 17592186044415, 35184372088831, 70368744177663]
theorem impl_IsPerformance.tab4 : rtab .any (opsOf Try.f86 4) = impl_IsPerformance.T4 := by kernel_rfl
theorem impl_IsPerformance.bits4 : waitsOk impl_IsPerformance.T4.2 impl_IsPerformance.B4 = true := by kernel_rfl
end Go.Proofs.Ytiophiipmgpaeaa.F

namespace Go.Proofs.Ytiophiipmgpaeaa.F
open Go.RowKit Go.Proofs.Ytiophiipmgpaeaa.Opened Go.Proofs.YtiophiipmgpaeaaW.PrintWords Go.Proofs.YtiophiipmgpaeaaW.PrintLast Go.Proofs.YtiophiipmgpaeaaW.PrintMore
set_option linter.unusedVariables false
set_option linter.unusedSimpArgs false
abbrev Pld := S109
def okP (e : Pld) : Prop := ((0 : Int) ≤ e.f0 ∧ e.f0 ≤ 10000000) ∧ ((0 : Int) ≤ e.f1 ∧ e.f1 ≤ 127)
instance (e : Pld) : Decidable (okP e) := by unfold okP; infer_instance
def leP (a b : Pld) : Prop := a.f0 < b.f0 ∨ (a.f0 = b.f0 ∧ a.f1 ≤ b.f1)
instance (a b : Pld) : Decidable (leP a b) := by unfold leP; infer_instance
def modR (n d : Int) : Int := Int.tmod (wrap64 (Int.tmod n d + d)) d
def floorR (n d : Int) : Int := if isRB n d = true then wrap64 (Int.tdiv (wrap64 (n - modR n d)) d) else 0
theorem spec_FloorRatio.ok (n d : Int) (k : Nat) (hk : 1000000 < k) : spec_FloorRatio.f k n d = some (floorR n d) := by
 unfold spec_FloorRatio.f floorR
 rw [spec_IsRatio.ok n d k hk]
 simp only [Option.bind_some]
 by_cases h : isRB n d = true
 ·
  have hb := isRB_b h
  rw [if_pos h, if_pos h]
  unfold spec_Mod.f modR
  rw [spec_l1In.ok]
  simp only [Option.bind_some]
  rw [if_pos (by simp; omega), if_neg (by omega)]
  simp only [Option.bind_some]
  rw [if_neg (by omega)]
 rw [if_neg h, if_neg h]
theorem impl_FloorRatio.ok (n d : Int) (k : Nat) (hk : 1000000 < k) : impl_FloorRatio.f k n d = some (floorR n d) := by
 unfold impl_FloorRatio.f floorR
 rw [impl_IsRatio.ok n d k hk]
 simp only [Option.bind_some]
 by_cases h : isRB n d = true
 ·
  have hb := isRB_b h
  rw [if_pos h, if_pos h]
  unfold impl_Mod.f modR
  rw [impl_InRange.ok]
  simp only [Option.bind_some]
  rw [if_pos (by simp; omega), if_neg (by omega)]
  simp only [Option.bind_some]
  rw [if_neg (by omega)]
 rw [if_neg h, if_neg h]
def gtP (a x : Pld) : Prop := a.f0 > x.f0 ∨ (a.f0 = x.f0 ∧ a.f1 > x.f1)
instance (a x : Pld) : Decidable (gtP a x) := by unfold gtP; exact inferInstance
def posP (l : List Pld) (x : Pld) : Nat → Nat
 | 0 => 0
 | i + 1 => if gtP (rd_T109 l (i : Int)) x then posP l x i else i + 1
theorem posP_le (l : List Pld) (x : Pld) : ∀ i, posP l x i ≤ i
 | 0 => Nat.le_refl _
 | i + 1 => by
  have := posP_le l x i
  unfold posP
  split <;> omega
theorem posP_spec (l : List Pld) (x : Pld) : ∀ i, i ≤ l.length → (∀ m (h : m < l.length), posP l x i ≤ m → m < i → gtP l[m] x) ∧ (posP l x i = 0 ∨ ∃ h : posP l x i - 1 < l.length, ¬ gtP l[posP l x i - 1] x)
 | 0, _ => ⟨fun m h _ h2 => absurd h2 (by omega), .inl rfl⟩
 | i + 1, hi => by
  obtain ⟨h1, h2⟩ := posP_spec l x i (by omega)
  have hl : i < l.length := by omega
  have e0 : posP l x (i + 1) = if gtP l[i] x then posP l x i else i + 1 := by
   rw [← rdT109 l i hl]
   rfl
  by_cases c : gtP l[i] x
  ·
   rw [if_pos c] at e0
   rw [e0]
   refine ⟨fun m h h3 h4 => ?_, h2⟩
   by_cases e : m = i
   ·
    subst e; exact c
   exact h1 m h h3 (by omega)
  rw [if_neg c] at e0
  rw [e0]
  exact ⟨fun m h h3 h4 => absurd h4 (by omega), .inr ⟨by simpa using hl, by simpa using c⟩⟩
def insP (l : List Pld) (x : Pld) : List Pld := l.take (posP l x l.length) ++ [x] ++ l.drop (posP l x l.length)
theorem insP_length (l : List Pld) (x : Pld) : (insP l x).length = l.length + 1 := by
 have := posP_le l x l.length
 unfold insP
 simp
 omega
theorem insP_perm (l : List Pld) (x : Pld) : (insP l x).Perm (x :: l) := by
 unfold insP
 rw [List.append_assoc, List.singleton_append]
 refine List.perm_middle.trans ?_
 rw [List.take_append_drop]
theorem insP_sorted (l : List Pld) (x : Pld) (h : l.Pairwise (fun a b => ¬ gtP a b)) : (insP l x).Pairwise (fun a b => ¬ gtP a b) := by
 obtain ⟨h1, h2⟩ := posP_spec l x l.length (Nat.le_refl _)
 have hle := posP_le l x l.length
 unfold insP
 generalize posP l x l.length = j at h1 h2 hle
 have hg := List.pairwise_iff_getElem.1 h
 have hb : ∀ a ∈ l.take j, ¬ gtP a x := by
  intro a ha
  obtain ⟨i, hi, e⟩ := List.getElem_of_mem ha
  rw [List.length_take] at hi
  rw [List.getElem_take] at e
  subst e
  rcases h2 with h2 | ⟨h3, h4⟩
  ·
   omega
  by_cases e2 : i = j - 1
  ·
   subst e2; exact h4
  have h5 := hg i (j - 1) (by omega) h3 (by omega)
  unfold gtP at *
  omega
 have ha : ∀ b ∈ l.drop j, gtP b x := by
  intro b hb
  obtain ⟨i, hi, e⟩ := List.getElem_of_mem hb
  rw [List.length_drop] at hi
  rw [List.getElem_drop] at e
  subst e
  exact h1 (j + i) (by omega) (by omega) (by omega)
 rw [List.append_assoc, List.pairwise_append]
 refine ⟨h.sublist (List.take_sublist _ _), ?_, fun a h3 b h4 => ?_⟩
 ·
  rw [List.singleton_append, List.pairwise_cons]
  refine ⟨fun b hb => ?_, h.sublist (List.drop_sublist _ _)⟩
  have := ha b hb
  unfold gtP at *
  omega
 rcases List.mem_append.1 h4 with h5 | h5
 ·
  rw [List.mem_singleton] at h5
  subst h5
  exact hb a h3
 have h6 := hb a h3
 have h7 := ha b h5
 unfold gtP at *
 omega
theorem foldP_spec : ∀ (xs acc : List Pld), acc.Pairwise (fun a b => ¬ gtP a b) → (xs.foldl insP acc).Pairwise (fun a b => ¬ gtP a b) ∧ (xs.foldl insP acc).Perm (xs ++ acc)
 | [], acc, h => ⟨h, List.Perm.refl _⟩
 | x :: xs, acc, h => by
  obtain ⟨h1, h2⟩ := foldP_spec xs (insP acc x) (insP_sorted acc x h)
  refine ⟨h1, h2.trans ?_⟩
  refine ((insP_perm acc x).append_left xs).trans ?_
  exact List.perm_middle
theorem srtP_spec (xs : List Pld) : (srtP xs).Pairwise (fun a b => ¬ gtP a b) ∧ (srtP xs).Perm xs := by
 refine ⟨?_, List.mergeSort_perm _ _⟩
 have := List.pairwise_mergeSort (le := fun x y => !(Go.Proofs.ltOf cfP) y x) (fun a b c h1 h2 => by rw [cfP_lt] at *; simp at *; omega) (fun a b => by rw [cfP_lt, cfP_lt]; simp; omega) xs
 unfold srtP
 refine this.imp fun {a b} h => ?_
 rw [cfP_lt] at h
 simp at h
 unfold gtP
 omega
theorem fold_srtP (xs : List Pld) : xs.foldl insP [] = srtP xs := by
 obtain ⟨a1, a2⟩ := foldP_spec xs [] (by simp)
 obtain ⟨b1, b2⟩ := srtP_spec xs
 rw [List.append_nil] at a2
 refine List.Perm.eq_of_pairwise (le := fun a b => ¬ gtP a b) (fun a b _ _ h1 h2 => ?_) a1 b1 (a2.trans b2.symm)
 obtain ⟨a, a'⟩ := a
 obtain ⟨b, b'⟩ := b
 unfold gtP at *
 simp only at *
 have : a = b := by omega
 have : a' = b' := by omega
 subst a
 subst a'
 rfl
theorem srtP_length (xs : List Pld) : (srtP xs).length = xs.length := (srtP_spec xs).2.length_eq
def tms (t : List Tmp) : List S118 → Option (List Pld)
 | [] => some []
 | e :: l => if (timeOf t e.f0).2.2 = true then (tms t l).map (⟨floorR (timeOf t e.f0).1 (timeOf t e.f0).2.1, e.f2⟩ :: ·) else none
theorem tms_length (t : List Tmp) : ∀ (l : List S118) (xs : List Pld), tms t l = some xs → xs.length = l.length
 | [], xs, h => by simp [tms] at h; subst h; rfl
 | e :: l, xs, h => by
  unfold tms at h
  split at h
  ·
   obtain ⟨ys, h1, h2⟩ := Option.map_eq_some_iff.1 h
   rw [← h2, List.length_cons, List.length_cons, tms_length t l ys h1]
  cases h
def playSc (l : List S118) (t : List Tmp) : List Pld × Bool := if isScoreB l = true then (match tms t l with | some xs => (srtP xs, true) | none => ([], false)) else ([], false)
theorem playSc_length (l : List S118) (t : List Tmp) : (playSc l t).1.length ≤ l.length := by
 unfold playSc
 split
 ·
  split
  ·
   rename_i xs h
   rw [srtP_length, tms_length t l xs h]
   exact Nat.le_refl _
  simp
 simp
theorem spec_l14Put.loop (l : List Pld) (x : Pld) (hm : l.length ≤ 4000000) : ∀ (i k : Nat), i ≤ l.length → i < k → spec_l14Put.l0 k l (i : Int) x.f0 x.f1 = some (l.take (posP l x i) ++ [x] ++ l.drop (posP l x i)) := by
 intro i
 induction i with
 | zero =>
  intro k hi hk
  obtain ⟨k, rfl⟩ : ∃ m, k = m + 1 := ⟨k - 1, by omega⟩
  simp only [spec_l14Put.l0, Option.bind_some, List.nil_append, List.length_nil, List.length_append, List.length_cons, posP]
  rw [if_neg (by omega), if_pos (by omega), if_pos (by omega)]
  simp only [Int.toNat_natCast, List.take_zero, List.length_nil, List.drop_zero, List.nil_append]
  rw [if_pos (by omega), if_pos (by omega), if_pos (by omega)]
 | succ i ih =>
  intro k hi hk
  obtain ⟨k, rfl⟩ : ∃ m, k = m + 1 := ⟨k - 1, by omega⟩
  have e : wrap64 (((i + 1 : Nat) : Int) - 1) = (i : Int) := by unfold wrap64; omega
  have hend : ∀ R, R = some (l.take (i + 1) ++ [x] ++ l.drop (i + 1)) → R = some (l.take (i + 1) ++ [x] ++ l.drop (i + 1)) := fun _ h => h
  have hfin : ((some ([] : List Pld)).bind fun y => if (0 : Int) ≤ ((i + 1 : Nat) : Int) then (if ((i + 1 : Nat) : Int) ≤ (l.length : Int) then ((some (l.take (((i + 1 : Nat) : Int)).toNat)).bind fun a => if y.length + a.length < 8796093022208 then ((some (y ++ a)).bind fun b => (some ([⟨x.f0, x.f1⟩] : List Pld)).bind fun c => if b.length + c.length < 8796093022208 then ((some (b ++ c)).bind fun d => (some (l.drop (((i + 1 : Nat) : Int)).toNat)).bind fun e => if d.length + e.length < 8796093022208 then some (d ++ e) else none) else none) else none) else none) else none) = some (l.take (i + 1) ++ [x] ++ l.drop (i + 1)) := by
   simp only [Option.bind_some, List.nil_append, List.length_nil, List.length_append, List.length_cons, Int.toNat_natCast]
   rw [if_pos (by omega), if_pos (by omega), if_pos (by rw [List.length_take]; omega), if_pos (by rw [List.length_take]; omega), if_pos (by rw [List.length_take, List.length_drop]; omega)]
  unfold posP
  rw [rdT109 l i (by omega)]
  simp only [spec_l14Put.l0]
  rw [if_pos (by omega), e, if_pos (by omega), if_pos (by omega), rdT109 l i (by omega), ih k (by omega) (by omega)]
  by_cases c1 : l[i].f0 > x.f0
  ·
   rw [if_pos c1, if_pos (show gtP l[i] x from Or.inl c1)]
  rw [if_neg c1]
  by_cases c2 : l[i].f0 = x.f0
  ·
   rw [if_pos c2]
   by_cases c3 : l[i].f1 > x.f1
   ·
    rw [if_pos c3, if_pos (show gtP l[i] x from Or.inr ⟨c2, c3⟩)]
   rw [if_neg c3, if_neg (show ¬ gtP l[i] x by unfold gtP; omega)]
   exact hfin
  rw [if_neg c2, if_neg (show ¬ gtP l[i] x by unfold gtP; omega)]
  exact hfin
theorem spec_l14Put.ok (l : List Pld) (x : Pld) (hm : l.length ≤ 4000000) (k : Nat) (hk : l.length < k) : spec_l14Put.f k l x.f0 x.f1 = some (insP l x) := by
 unfold spec_l14Put.f
 exact spec_l14Put.loop l x hm l.length k (Nat.le_refl _) hk
theorem spec_PlayScore.loop (l : List S118) (t : List Tmp) (hm : l.length ≤ 1048576) (ht : t.length ≤ 1048576) (hs : isScoreB l = true) : ∀ (d k : Nat) (acc : List Pld) (n : Nat), acc.length ≤ n → l.length - n ≤ d → n ≤ l.length → 2 * d + l.length + 3 * t.length + 1000000000000030 < k → spec_PlayScore.l0 k l t acc (n : Int) = (match tms t (l.drop n) with | some xs => some (xs.foldl insP acc, true) | none => some ([], false)) := by
 intro d
 induction d with
 | zero =>
  intro k acc n ha hd hn hk
  obtain ⟨k, rfl⟩ : ∃ m, k = m + 2 := ⟨k - 2, by omega⟩
  simp only [spec_PlayScore.l0, spec_PlayScore.j1]
  rw [if_neg (by omega), List.drop_of_length_le (by omega), spec_IsScore.ok l (by omega) _ (by omega), hs]
  simp [tms]
 | succ d ih =>
  intro k acc n ha hd hn hk
  obtain ⟨k, rfl⟩ : ∃ m, k = m + 2 := ⟨k - 2, by omega⟩
  by_cases h : n < l.length
  ·
   simp only [spec_PlayScore.l0]
   rw [if_pos (by omega), spec_IsScore.ok l (by omega) _ (by omega), hs]
   simp only [spec_PlayScore.j1, Option.bind_some, if_true]
   rw [if_pos (by omega), if_pos (by omega), rdT118 l n h, w1 h (by omega), List.drop_eq_getElem_cons h, spec_TimeOf.ok t _ ht k (by omega)]
   simp only [Option.bind_some, tms]
   by_cases c : (timeOf t l[n].f0).2.2 = true
   ·
    rw [if_pos c, if_pos c, spec_FloorRatio.ok _ _ k (by omega)]
    simp only [Option.bind_some]
    have hp := spec_l14Put.ok acc ⟨floorR (timeOf t l[n].f0).1 (timeOf t l[n].f0).2.1, l[n].f2⟩ (by omega) k (by omega)
    simp only at hp
    rw [hp]
    simp only [Option.bind_some]
    rw [ih k _ (n + 1) (by rw [insP_length]; omega) (by omega) (by omega) (by omega)]
    cases tms t (l.drop (n + 1)) <;> rfl
   rw [if_neg c, if_neg c]
  simp only [spec_PlayScore.l0, spec_PlayScore.j1]
  rw [if_neg (by omega), List.drop_of_length_le (by omega), spec_IsScore.ok l (by omega) _ (by omega), hs]
  simp [tms]
theorem spec_PlayScore.ok (l : List S118) (t : List Tmp) (hm : l.length ≤ 1048576) (ht : t.length ≤ 1048576) (k : Nat) (hk : 4 * l.length + 3 * t.length + 1000000000000040 < k) : spec_PlayScore.f k l t = some (playSc l t) := by
 unfold spec_PlayScore.f playSc
 by_cases hs : isScoreB l = true
 ·
  have h := spec_PlayScore.loop l t hm ht hs l.length k [] 0 (by simp) (by omega) (by omega) (by omega)
  rw [if_pos hs]
  simp only [List.drop_zero] at h
  refine Eq.trans h ?_
  cases tms t l with
  | none => rfl
  | some xs => simp only [fold_srtP]
 obtain ⟨k, rfl⟩ : ∃ m, k = m + 2 := ⟨k - 2, by omega⟩
 have hl : 0 < l.length := by
  cases l with
  | nil => exact absurd (by decide) hs
  | cons => simp
 have hs' : isScoreB l = false := by simpa using hs
 simp only [spec_PlayScore.l0, spec_PlayScore.j1]
 rw [if_pos (by omega), spec_IsScore.ok l (by omega) _ (by omega), hs']
 simp only [Option.bind_some, Bool.false_eq_true, if_false]
 rw [spec_IsScore.ok l (by omega) _ (by omega), hs']
 rfl
theorem impl_PlayScore.loop (l : List S118) (t : List Tmp) (hm : l.length ≤ 1048576) (ht : t.length ≤ 1048576) : ∀ (d k : Nat) (acc : List Pld) (n : Nat), acc.length ≤ n → l.length - n ≤ d → n ≤ l.length → d + 3 * t.length + 1000000000000030 < k → impl_PlayScore.l0 k t acc l l.length (n : Int) = (match tms t (l.drop n) with | some xs => some (srtP (acc ++ xs), true) | none => some ([], false)) := by
 intro d
 induction d with
 | zero =>
  intro k acc n ha hd hn hk
  obtain ⟨k, rfl⟩ : ∃ m, k = m + 1 := ⟨k - 1, by omega⟩
  simp only [impl_PlayScore.l0]
  rw [if_neg (by omega), if_pos (by omega), List.drop_of_length_le (by omega)]
  simp [tms]
 | succ d ih =>
  intro k acc n ha hd hn hk
  obtain ⟨k, rfl⟩ : ∃ m, k = m + 1 := ⟨k - 1, by omega⟩
  simp only [impl_PlayScore.l0]
  by_cases h : n < l.length
  ·
   rw [if_pos (by omega), if_pos (by omega), if_pos (by omega), rdT118 l n h, w1 h (by omega), List.drop_eq_getElem_cons h, impl_TimeOf.ok t _ ht k (by omega)]
   simp only [Option.bind_some, tms]
   by_cases c : (timeOf t l[n].f0).2.2 = true
   ·
    rw [if_pos c, if_pos c, impl_FloorRatio.ok _ _ k (by omega)]
    simp only [Option.bind_some]
    rw [if_pos (by omega), ih k _ (n + 1) (by simp; omega) (by omega) (by omega) (by omega)]
    cases tms t (l.drop (n + 1)) with
    | none => rfl
    | some xs => simp
   rw [if_neg c, if_neg c]
  rw [if_neg (by omega), if_pos (by omega), List.drop_of_length_le (by omega)]
  simp [tms]
theorem impl_PlayScore.ok (l : List S118) (t : List Tmp) (hm : l.length ≤ 1048576) (ht : t.length ≤ 1048576) (k : Nat) (hk : 4 * l.length + 3 * t.length + 1000000000000040 < k) : impl_PlayScore.f k l t = some (playSc l t) := by
 unfold impl_PlayScore.f playSc
 rw [impl_IsScore.ok l (by omega) _ (by omega)]
 simp only [Option.bind_some]
 by_cases hs : isScoreB l = true
 ·
  have h := impl_PlayScore.loop l t hm ht l.length k [] 0 (by simp) (by omega) (by omega) (by omega)
  rw [if_pos hs, if_pos hs]
  simp only [List.drop_zero] at h
  refine Eq.trans h ?_
  cases tms t l with
  | none => rfl
  | some xs => simp
 rw [if_neg hs, if_neg hs]
end Go.Proofs.Ytiophiipmgpaeaa.F

namespace Go.Proofs.Ytiophiipmgpaeaa.F
open Go.RowKit Go.Proofs.Ytiophiipmgpaeaa.Opened Go.Proofs.YtiophiipmgpaeaaW.PrintWords Go.Proofs.YtiophiipmgpaeaaW.PrintLast
set_option linter.unusedVariables false
set_option linter.unusedSimpArgs false
def conv126 (x : S126) : S118 := ⟨x.f0, x.f1, x.f2, x.f3⟩
theorem laws_szEventS.ok (l : List S126) (a : Int) (h : l.length ≤ 9223372036854775807) (h0 : 0 ≤ a) (h1 : a ≤ 1048576) : laws_szEventS.f l a = some (if a - l.length < 0 then -1 else a - l.length) := by
 have e : wrap64 (a - (l.length : Int)) = a - l.length := by unfold wrap64; omega
 unfold laws_szEventS.f
 rw [e]
 split <;> rfl
theorem laws_toEventS.loop (x : List S126) (hm : x.length ≤ 1048576) : ∀ (d k : Nat) (acc : List S118) (n : Nat), n ≤ x.length → x.length - n = d → d < k → acc.length = x.length → acc.take n = (x.map conv126).take n → laws_toEventS.l0 k x acc (n : Int) = some (x.map conv126) := by
 intro d
 induction d with
 | zero =>
  intro k acc n hn hd hk hl ha
  obtain ⟨k, rfl⟩ : ∃ m, k = m + 1 := ⟨k - 1, by omega⟩
  simp only [laws_toEventS.l0]
  rw [if_neg (by omega)]
  have : n = x.length := by omega
  subst this
  rw [← hl, List.take_length, hl, ← List.length_map (f := conv126), List.take_length] at ha
  rw [ha]
 | succ d ih =>
  intro k acc n hn hd hk hl ha
  obtain ⟨k, rfl⟩ : ∃ m, k = m + 1 := ⟨k - 1, by omega⟩
  have hlt : n < x.length := by omega
  simp only [laws_toEventS.l0, laws_toEvent.f, Option.bind_some]
  rw [if_pos (by omega), if_pos (by omega), if_pos (by omega), w1 hlt (by omega), rdT126 x n hlt, Int.toNat_natCast]
  refine ih k _ (n + 1) (by omega) (by omega) (by omega) (by simpa using hl) ?_
  rw [set_take _ _ _ (by omega), ha, take_next (by simpa using hlt)]
  simp [conv126]
theorem laws_toEventS.ok (x : List S126) (hm : x.length ≤ 1048576) (k : Nat) (hk : x.length < k) : laws_toEventS.f k x = some (x.map conv126) := by
 unfold laws_toEventS.f
 rw [if_pos (by omega), if_pos (by omega), Int.toNat_natCast]
 exact laws_toEventS.loop x hm x.length k _ 0 (by omega) (by omega) hk (by simp) (by simp)
theorem laws_eqEvent.same (v0 : Int) (v1 : Int) (v2 : Int) (v3 : Int) : laws_eqEvent.f v0 v1 v2 v3 v0 v1 v2 v3 = some true := by simp [laws_eqEvent.f]
theorem laws_eqEventS.loop (x : List S118) (hm : x.length ≤ 9223372036854775807) : ∀ (d k : Nat) (n : Nat), n ≤ x.length → x.length - n = d → d < k → laws_eqEventS.l0 k x x (n : Int) = some true := by
 intro d
 induction d with
 | zero =>
  intro k n hn hd hk
  obtain ⟨k, rfl⟩ : ∃ m, k = m + 1 := ⟨k - 1, by omega⟩
  simp only [laws_eqEventS.l0]
  rw [if_neg (by omega)]
 | succ d ih =>
  intro k n hn hd hk
  obtain ⟨k, rfl⟩ : ∃ m, k = m + 1 := ⟨k - 1, by omega⟩
  have hlt : n < x.length := by omega
  simp only [laws_eqEventS.l0, laws_eqEvent.same, Option.bind_some]
  rw [if_pos (by omega), if_pos (by omega), w1 hlt hm]
  simp only [if_true]
  first
   | (rw [if_pos (by omega)]; exact ih k (n + 1) (by omega) (by omega) (by omega))
   | exact ih k (n + 1) (by omega) (by omega) (by omega)
theorem laws_eqEventS.ok (x : List S118) (hm : x.length ≤ 9223372036854775807) (k : Nat) (hk : x.length < k) : laws_eqEventS.f k x x = some true := by
 unfold laws_eqEventS.f
 rw [if_pos rfl]
 exact laws_eqEventS.loop x hm x.length k 0 (by omega) (by omega) hk
def markedEvent : Nat → Int → List S118
 | 0, _ => []
 | m + 1, c => (⟨c, c + 1, c + 1 + 1, c + 1 + 1 + 1⟩ : S118) :: markedEvent m (c + 1 + 1 + 1 + 1)
theorem rdsetEvent (xs : List S118) (n : Nat) (v : S118) (h : n < xs.length) : rd_T118 (xs.set n v) (n : Int) = v := by
 rw [rdT118 _ n (by simpa using h)]
 simp
theorem laws_markEventS.loop : ∀ (d k : Nat) (x : List S118) (c : Int) (n : Nat), x.length ≤ 1048576 → n ≤ x.length → x.length - n = d → d < k → 0 ≤ c → c ≤ 1000000000000 - 4 * d → laws_markEventS.l0 k x c (n : Int) = some (c + 4 * d, x.take n ++ markedEvent d c) := by
 intro d
 induction d with
 | zero =>
  intro k x c n hm hn hd hk h0 h1
  obtain ⟨k, rfl⟩ : ∃ m, k = m + 1 := ⟨k - 1, by omega⟩
  simp only [laws_markEventS.l0]
  rw [if_neg (by omega), List.take_of_length_le (by omega)]
  simp [markedEvent]
 | succ d ih =>
  intro k x c n hm hn hd hk h0 h1
  obtain ⟨k, rfl⟩ : ∃ m, k = m + 1 := ⟨k - 1, by omega⟩
  have hlt : n < x.length := by omega
  have e1 : wrap64 (c + 1) = c + 1 := by unfold wrap64; omega
  have e2 : wrap64 (c + 1 + 1) = c + 1 + 1 := by unfold wrap64; omega
  have e3 : wrap64 (c + 1 + 1 + 1) = c + 1 + 1 + 1 := by unfold wrap64; omega
  have e4 : wrap64 (c + 1 + 1 + 1 + 1) = c + 1 + 1 + 1 + 1 := by unfold wrap64; omega
  simp only [laws_markEventS.l0, Option.bind_some, Int.toNat_natCast]
  rw [if_pos (by omega), if_pos (by omega), w1 hlt (by omega)]
  simp only [e1, e2, e3, e4, List.set_set, rdsetEvent x n _ hlt]
  rw [ih k _ _ (n + 1) (by rw [List.length_set]; omega) (by rw [List.length_set]; omega) (by rw [List.length_set]; omega) (by omega) (by omega) (by omega), set_take _ _ _ hlt]
  congr 1
  refine Prod.ext ?_ ?_
  ·
   show _ = _
   omega
  simp [markedEvent]
theorem laws_markEventS.ok (x : List S118) (c : Int) (hm : x.length ≤ 1048576) (h0 : 0 ≤ c) (h1 : c ≤ 1000000) (k : Nat) (hk : x.length < k) : laws_markEventS.f k x c = some (c + 4 * x.length, markedEvent x.length c) := by
 unfold laws_markEventS.f
 have h := laws_markEventS.loop x.length k x c 0 hm (by omega) (by omega) hk h0 (by omega)
 simpa using h
def conv142 (x : S142) : S140 := ⟨x.f0, x.f1⟩
theorem laws_szTempoS.ok (l : List S142) (a : Int) (h : l.length ≤ 9223372036854775807) (h0 : 0 ≤ a) (h1 : a ≤ 1048576) : laws_szTempoS.f l a = some (if a - l.length < 0 then -1 else a - l.length) := by
 have e : wrap64 (a - (l.length : Int)) = a - l.length := by unfold wrap64; omega
 unfold laws_szTempoS.f
 rw [e]
 split <;> rfl
theorem laws_toTempoS.loop (x : List S142) (hm : x.length ≤ 1048576) : ∀ (d k : Nat) (acc : List S140) (n : Nat), n ≤ x.length → x.length - n = d → d < k → acc.length = x.length → acc.take n = (x.map conv142).take n → laws_toTempoS.l0 k x acc (n : Int) = some (x.map conv142) := by
 intro d
 induction d with
 | zero =>
  intro k acc n hn hd hk hl ha
  obtain ⟨k, rfl⟩ : ∃ m, k = m + 1 := ⟨k - 1, by omega⟩
  simp only [laws_toTempoS.l0]
  rw [if_neg (by omega)]
  have : n = x.length := by omega
  subst this
  rw [← hl, List.take_length, hl, ← List.length_map (f := conv142), List.take_length] at ha
  rw [ha]
 | succ d ih =>
  intro k acc n hn hd hk hl ha
  obtain ⟨k, rfl⟩ : ∃ m, k = m + 1 := ⟨k - 1, by omega⟩
  have hlt : n < x.length := by omega
  simp only [laws_toTempoS.l0, laws_toTempo.f, Option.bind_some]
  rw [if_pos (by omega), if_pos (by omega), if_pos (by omega), w1 hlt (by omega), rdT142 x n hlt, Int.toNat_natCast]
  refine ih k _ (n + 1) (by omega) (by omega) (by omega) (by simpa using hl) ?_
  rw [set_take _ _ _ (by omega), ha, take_next (by simpa using hlt)]
  simp [conv142]
theorem laws_toTempoS.ok (x : List S142) (hm : x.length ≤ 1048576) (k : Nat) (hk : x.length < k) : laws_toTempoS.f k x = some (x.map conv142) := by
 unfold laws_toTempoS.f
 rw [if_pos (by omega), if_pos (by omega), Int.toNat_natCast]
 exact laws_toTempoS.loop x hm x.length k _ 0 (by omega) (by omega) hk (by simp) (by simp)
theorem laws_eqTempo.same (v0 : Int) (v1 : Int) : laws_eqTempo.f v0 v1 v0 v1 = some true := by simp [laws_eqTempo.f]
theorem laws_eqTempoS.loop (x : List S140) (hm : x.length ≤ 9223372036854775807) : ∀ (d k : Nat) (n : Nat), n ≤ x.length → x.length - n = d → d < k → laws_eqTempoS.l0 k x x (n : Int) = some true := by
 intro d
 induction d with
 | zero =>
  intro k n hn hd hk
  obtain ⟨k, rfl⟩ : ∃ m, k = m + 1 := ⟨k - 1, by omega⟩
  simp only [laws_eqTempoS.l0]
  rw [if_neg (by omega)]
 | succ d ih =>
  intro k n hn hd hk
  obtain ⟨k, rfl⟩ : ∃ m, k = m + 1 := ⟨k - 1, by omega⟩
  have hlt : n < x.length := by omega
  simp only [laws_eqTempoS.l0, laws_eqTempo.same, Option.bind_some]
  rw [if_pos (by omega), if_pos (by omega), w1 hlt hm]
  simp only [if_true]
  first
   | (rw [if_pos (by omega)]; exact ih k (n + 1) (by omega) (by omega) (by omega))
   | exact ih k (n + 1) (by omega) (by omega) (by omega)
theorem laws_eqTempoS.ok (x : List S140) (hm : x.length ≤ 9223372036854775807) (k : Nat) (hk : x.length < k) : laws_eqTempoS.f k x x = some true := by
 unfold laws_eqTempoS.f
 rw [if_pos rfl]
 exact laws_eqTempoS.loop x hm x.length k 0 (by omega) (by omega) hk
def markedTempo : Nat → Int → List S140
 | 0, _ => []
 | m + 1, c => (⟨c, c + 1⟩ : S140) :: markedTempo m (c + 1 + 1)
theorem rdsetTempo (xs : List S140) (n : Nat) (v : S140) (h : n < xs.length) : rd_T140 (xs.set n v) (n : Int) = v := by
 rw [rdT140 _ n (by simpa using h)]
 simp
theorem laws_markTempoS.loop : ∀ (d k : Nat) (x : List S140) (c : Int) (n : Nat), x.length ≤ 1048576 → n ≤ x.length → x.length - n = d → d < k → 0 ≤ c → c ≤ 1000000000000 - 2 * d → laws_markTempoS.l0 k x c (n : Int) = some (c + 2 * d, x.take n ++ markedTempo d c) := by
 intro d
 induction d with
 | zero =>
  intro k x c n hm hn hd hk h0 h1
  obtain ⟨k, rfl⟩ : ∃ m, k = m + 1 := ⟨k - 1, by omega⟩
  simp only [laws_markTempoS.l0]
  rw [if_neg (by omega), List.take_of_length_le (by omega)]
  simp [markedTempo]
 | succ d ih =>
  intro k x c n hm hn hd hk h0 h1
  obtain ⟨k, rfl⟩ : ∃ m, k = m + 1 := ⟨k - 1, by omega⟩
  have hlt : n < x.length := by omega
  have e1 : wrap64 (c + 1) = c + 1 := by unfold wrap64; omega
  have e2 : wrap64 (c + 1 + 1) = c + 1 + 1 := by unfold wrap64; omega
  simp only [laws_markTempoS.l0, Option.bind_some, Int.toNat_natCast]
  rw [if_pos (by omega), if_pos (by omega), w1 hlt (by omega)]
  simp only [e1, e2, List.set_set, rdsetTempo x n _ hlt]
  rw [ih k _ _ (n + 1) (by rw [List.length_set]; omega) (by rw [List.length_set]; omega) (by rw [List.length_set]; omega) (by omega) (by omega) (by omega), set_take _ _ _ hlt]
  congr 1
  refine Prod.ext ?_ ?_
  ·
   show _ = _
   omega
  simp [markedTempo]
theorem laws_eqPlayed.same (v0 : Int) (v1 : Int) : laws_eqPlayed.f v0 v1 v0 v1 = some true := by simp [laws_eqPlayed.f]
theorem laws_eqPlayedS.loop (x : List S109) (hm : x.length ≤ 9223372036854775807) : ∀ (d k : Nat) (n : Nat), n ≤ x.length → x.length - n = d → d < k → laws_eqPlayedS.l0 k x x (n : Int) = some true := by
 intro d
 induction d with
 | zero =>
  intro k n hn hd hk
  obtain ⟨k, rfl⟩ : ∃ m, k = m + 1 := ⟨k - 1, by omega⟩
  simp only [laws_eqPlayedS.l0]
  rw [if_neg (by omega)]
 | succ d ih =>
  intro k n hn hd hk
  obtain ⟨k, rfl⟩ : ∃ m, k = m + 1 := ⟨k - 1, by omega⟩
  have hlt : n < x.length := by omega
  simp only [laws_eqPlayedS.l0, laws_eqPlayed.same, Option.bind_some]
  rw [if_pos (by omega), if_pos (by omega), w1 hlt hm]
  simp only [if_true]
  first
   | (rw [if_pos (by omega)]; exact ih k (n + 1) (by omega) (by omega) (by omega))
   | exact ih k (n + 1) (by omega) (by omega) (by omega)
theorem laws_eqPlayedS.ok (x : List S109) (hm : x.length ≤ 9223372036854775807) (k : Nat) (hk : x.length < k) : laws_eqPlayedS.f k x x = some true := by
 unfold laws_eqPlayedS.f
 rw [if_pos rfl]
 exact laws_eqPlayedS.loop x hm x.length k 0 (by omega) (by omega) hk
def markedPlayed : Nat → Int → List S109
 | 0, _ => []
 | m + 1, c => (⟨c, c + 1⟩ : S109) :: markedPlayed m (c + 1 + 1)
theorem markedPlayed_length (m : Nat) (c : Int) : (markedPlayed m c).length = m := by
 induction m generalizing c with
 | zero => rfl
 | succ m ih => simp [markedPlayed, ih]
theorem rdsetPlayed (xs : List S109) (n : Nat) (v : S109) (h : n < xs.length) : rd_T109 (xs.set n v) (n : Int) = v := by
 rw [rdT109 _ n (by simpa using h)]
 simp
theorem laws_markPlayedS.loop : ∀ (d k : Nat) (x : List S109) (c : Int) (n : Nat), x.length ≤ 1048576 → n ≤ x.length → x.length - n = d → d < k → 0 ≤ c → c ≤ 1000000000000 - 2 * d → laws_markPlayedS.l0 k x c (n : Int) = some (c + 2 * d, x.take n ++ markedPlayed d c) := by
 intro d
 induction d with
 | zero =>
  intro k x c n hm hn hd hk h0 h1
  obtain ⟨k, rfl⟩ : ∃ m, k = m + 1 := ⟨k - 1, by omega⟩
  simp only [laws_markPlayedS.l0]
  rw [if_neg (by omega), List.take_of_length_le (by omega)]
  simp [markedPlayed]
 | succ d ih =>
  intro k x c n hm hn hd hk h0 h1
  obtain ⟨k, rfl⟩ : ∃ m, k = m + 1 := ⟨k - 1, by omega⟩
  have hlt : n < x.length := by omega
  have e1 : wrap64 (c + 1) = c + 1 := by unfold wrap64; omega
  have e2 : wrap64 (c + 1 + 1) = c + 1 + 1 := by unfold wrap64; omega
  simp only [laws_markPlayedS.l0, Option.bind_some, Int.toNat_natCast]
  rw [if_pos (by omega), if_pos (by omega), w1 hlt (by omega)]
  simp only [e1, e2, List.set_set, rdsetPlayed x n _ hlt]
  rw [ih k _ _ (n + 1) (by rw [List.length_set]; omega) (by rw [List.length_set]; omega) (by rw [List.length_set]; omega) (by omega) (by omega) (by omega), set_take _ _ _ hlt]
  congr 1
  refine Prod.ext ?_ ?_
  ·
   show _ = _
   omega
  simp [markedPlayed]
theorem laws_markPlayedS.ok (x : List S109) (c : Int) (hm : x.length ≤ 1048576) (h0 : 0 ≤ c) (h1 : c ≤ 1000000) (k : Nat) (hk : x.length < k) : laws_markPlayedS.f k x c = some (c + 2 * x.length, markedPlayed x.length c) := by
 unfold laws_markPlayedS.f
 have h := laws_markPlayedS.loop x.length k x c 0 hm (by omega) (by omega) hk h0 (by omega)
 simpa using h
theorem laws_heldPlayedS.loop (x : List S109) (hm : x.length ≤ 1048576) : ∀ (d k : Nat) (c : Int) (n : Nat), n ≤ x.length → x.length - n = d → d < k → 0 ≤ c → c ≤ 1000000000000 - 2 * d → x.drop n = markedPlayed d c → laws_heldPlayedS.l0 k x c (n : Int) = some (c + 2 * d) := by
 intro d
 induction d with
 | zero =>
  intro k c n hn hd hk h0 h1 hx
  obtain ⟨k, rfl⟩ : ∃ m, k = m + 1 := ⟨k - 1, by omega⟩
  simp only [laws_heldPlayedS.l0]
  rw [if_neg (by omega)]
  simp
 | succ d ih =>
  intro k c n hn hd hk h0 h1 hx
  obtain ⟨k, rfl⟩ : ∃ m, k = m + 1 := ⟨k - 1, by omega⟩
  have hlt : n < x.length := by omega
  have e1 : wrap64 (c + 1) = c + 1 := by unfold wrap64; omega
  have e2 : wrap64 (c + 1 + 1) = c + 1 + 1 := by unfold wrap64; omega
  rw [List.drop_eq_getElem_cons hlt] at hx
  simp only [markedPlayed, List.cons.injEq] at hx
  obtain ⟨hx1, hx2⟩ := hx
  simp only [laws_heldPlayedS.l0]
  rw [if_pos (by omega), if_pos (by omega), w1 hlt (by omega), rdT109 x n hlt, hx1]
  simp only [e1, e2, if_true, bne_self_eq_false, Bool.false_eq_true, if_false]
  rw [ih k _ (n + 1) (by omega) (by omega) (by omega) (by omega) (by omega) hx2]
  congr 1
  omega
theorem laws_heldPlayedS.ok (m : Nat) (c : Int) (hm : m ≤ 1048576) (h0 : 0 ≤ c) (h1 : c ≤ 1000000) (k : Nat) (hk : m < k) : laws_heldPlayedS.f k (markedPlayed m c) c = some (c + 2 * m) := by
 unfold laws_heldPlayedS.f
 have h := laws_heldPlayedS.loop (markedPlayed m c) (by rw [markedPlayed_length]; exact hm) m k c 0 (by omega) (by rw [markedPlayed_length]; omega) hk h0 (by omega) (by simp)
 simpa using h
end Go.Proofs.Ytiophiipmgpaeaa.F

namespace Go.Proofs.Ytiophiipmgpaeaa.Pure
open Go.RowKit Go.Proofs.Ytiophiipmgpaeaa.F Go.Proofs.Ytiophiipmgpaeaa.Opened Go.Proofs.YtiophiipmgpaeaaW.PrintWords Go.Proofs.YtiophiipmgpaeaaW.PrintLast Go.Proofs.YtiophiipmgpaeaaW.PrintMore
set_option linter.unusedVariables false
set_option linter.unusedSimpArgs false
attribute [local congr] bind_left
def Pure_FnExactPlayScore : Prop := ∀ (l0 : List S126) (l1 : List S142), l0.length ≤ 9223372036854775807 → (∀ x ∈ l0, Good126 x) → l1.length ≤ 9223372036854775807 → (∀ x ∈ l1, Good142 x) → ∃ k, laws_FnExactPlayScore.f k l0 l1 = some true
theorem pure_FnExactPlayScore : Pure_FnExactPlayScore := by
 intro l0 l1 hl0 hg0 hl1 hg1
 by_cases hb0 : 1048576 < l0.length
 ·
  refine ⟨0, ?_⟩
  unfold laws_FnExactPlayScore.f
  rw [laws_szEventS.ok l0 _ hl0 (by omega) (by omega), if_pos (by omega)]
  rfl
 have hm0 : l0.length ≤ 1048576 := by omega
 have hs0 : laws_szEventS.f l0 ((1048576 : Int)) = some ((1048576 : Int) - l0.length) := by
  rw [laws_szEventS.ok l0 _ hl0 (by omega) (by omega), if_neg (by omega)]
 have hn0 : ¬ ((1048576 : Int) - l0.length < 0) := by omega
 by_cases hb1 : (1048576 : Int) - l0.length - l1.length < 0
 ·
  refine ⟨0, ?_⟩
  unfold laws_FnExactPlayScore.f
  rw [hs0]
  simp only [Option.bind_some]
  rw [if_neg hn0, laws_szTempoS.ok l1 _ hl1 (by omega) (by omega), if_pos hb1]
  rfl
 have hm1 : l1.length ≤ 1048576 := by omega
 have hs1 : laws_szTempoS.f l1 ((1048576 : Int) - l0.length) = some ((1048576 : Int) - l0.length - l1.length) := by
  rw [laws_szTempoS.ok l1 _ hl1 (by omega) (by omega), if_neg hb1]
 have T0 := fun k hk => laws_toEventS.ok l0 hm0 k hk
 have T1 := fun k hk => laws_toTempoS.ok l1 hm1 k hk
 generalize hx0 : l0.map conv126 = x0 at T0
 generalize hx1 : l1.map conv142 = x1 at T1
 have n0 : x0.length = l0.length := by rw [← hx0, List.length_map]
 have n1 : x1.length = l1.length := by rw [← hx1, List.length_map]
 have kn0 : ¬ ((1 : Int) + 4 * (x0.length : Int) + 2 * (x1.length : Int) < 0) := by omega
 have rl := playSc_length x0 x1
 have kn1 : ¬ ((1 : Int) + 2 * ((playSc x0 x1).1.length : Int) < 0) := by omega
 obtain ⟨K, hK⟩ : ∃ K : Nat, 4 * l0.length + 3 * l1.length + 1000000000000100 ≤ K := ⟨_, Nat.le_refl _⟩
 have M1 : ∀ k, l1.length < k → laws_markTempoS.f k x1 (1 + 4 * (x0.length : Int)) = some (1 + 4 * (x0.length : Int) + 2 * (x1.length : Int), markedTempo x1.length (1 + 4 * (x0.length : Int))) := by
  intro k hk
  have h := laws_markTempoS.loop x1.length k x1 (1 + 4 * (x0.length : Int)) 0 (by omega) (by omega) (by omega) (by omega) (by omega) (by omega)
  unfold laws_markTempoS.f
  simpa using h
 have S1 : ∀ k, 4 * x0.length + 3 * x1.length + 1000000000000040 < k → spec_PlayScore.f k x0 x1 = some (playSc x0 x1) := fun k hk => spec_PlayScore.ok x0 x1 (by omega) (by omega) k hk
 have S2 : ∀ k, 4 * x0.length + 3 * x1.length + 1000000000000040 < k → impl_PlayScore.f k x0 x1 = some (playSc x0 x1) := fun k hk => impl_PlayScore.ok x0 x1 (by omega) (by omega) k hk
 generalize playSc x0 x1 = r at S1 S2 rl kn1
 obtain ⟨r1, r2⟩ := r
 simp only at rl kn1
 refine ⟨K + 10, ?_⟩
 simp (maxSteps := 3000000) (disch := first | assumption | omega) only [laws_FnExactPlayScore.f, laws_FnExactPlayScore.j0, laws_FnExactPlayScore.j1, laws_FnExactPlayScore.j2, hs0, hn0, hs1, hb1, T0, T1, laws_eqEventS.ok, laws_markEventS.ok, laws_eqTempoS.ok, M1, laws_eqPlayedS.ok, laws_markPlayedS.ok, laws_heldPlayedS.ok, S1, S2, kn0, kn1, eq_self, Option.bind_some, ↓reduceIte, if_true, if_false, decide_true, decide_false, Bool.not_true, Bool.not_false, bne_self_eq_false, Bool.false_eq_true, not_true_eq_false, Int.reduceLT]
end Go.Proofs.Ytiophiipmgpaeaa.Pure
