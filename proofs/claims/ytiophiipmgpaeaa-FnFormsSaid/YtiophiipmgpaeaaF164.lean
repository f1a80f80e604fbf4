-- Written for this claim by the kit's print.py out of the translation, called by wip/tools/fprint.py. Lean checks it.
import Derived.Test.YtiophiipmgpaeaaF0
import Derived.Test.YtiophiipmgpaeaaF160
import Derived.Test.YtiophiipmgpaeaaF162
namespace Go.Proofs.Ytiophiipmgpaeaa.F
open Go.RowKit Go.Proofs.YtiophiipmgpaeaaW.PrintWords Go.Proofs.YtiophiipmgpaeaaW.PrintLast Go.Proofs.YtiophiipmgpaeaaW.PrintMore
attribute [local go_sem] max2_int min2_int max_two min_two max_three min_three max_four min_four   -- for this text's walks alone
set_option linter.unusedVariables false
set_option linter.unusedSimpArgs false

/-! ### spec_l12Draw: function 159 -/
def spec_l12Draw.l0 : Nat → List (S154) → Int → List Int → Int → Int → Option ((List (S154)) × Int × Int)
  | 0, _, _, _, _, _ => none
  | k + 1, x3, x4, x1000, x1001, x1002 => if x4 > 0 then ((spec_l1Below.f x1000 x1001 x1002 9).bind fun bt1125 => ((spec_l1Below.f x1000 bt1125.2.1 bt1125.2.2 5).bind fun bt1128 => ((spec_l1Below.f x1000 bt1128.2.1 bt1128.2.2 3).bind fun bt1131 => (if x3.length < 5864062014805 then (spec_l12Draw.l0 k (x3 ++ [(⟨wrap64 (1 + bt1125.1), wrap64 ((wrap64 (1 + bt1125.1)) + bt1128.1), wrap64 (1 + bt1131.1)⟩ : S154)]) (wrap64 (x4 - 1)) x1000 bt1131.2.1 bt1131.2.2) else (none))))) else (some (x3, x1001, x1002))
def spec_l12Draw.f (k : Nat) (s0_0 : List Int) (s0_1 : Int) (s0_2 : Int) : Option ((List (S154)) × Int × Int) := (spec_l1Below.f s0_0 s0_1 s0_2 5).bind fun bt1122 => (spec_l12Draw.l0 k (([] : List (S154))) bt1122.1 s0_0 bt1122.2.1 bt1122.2.2)
theorem spec_l12Draw.mono_l : ∀ k, (∀ y0 y1 y2 y3 y4, LeO (spec_l12Draw.l0 k y0 y1 y2 y3 y4) (spec_l12Draw.l0 (k + 1) y0 y1 y2 y3 y4))
  | 0 => fun _ _ _ _ _ r h => by simp [spec_l12Draw.l0] at h
  | k + 1 => by
    have ih0 := spec_l12Draw.mono_l k
    · intro y0 y1 y2 y3 y4
      unfold spec_l12Draw.l0
      repeat' first
      | (with_reducible exact ih0 _ _ _ _ _)
      | (with_reducible exact LeO.refl _)
      | (with_reducible exact LeO.none _)
      | (with_reducible refine LeO.ite ?_ ?_)
      | (with_reducible refine LeO.bind ?_ (fun _ => ?_))
      | exact ih0 _ _ _ _ _
      | exact LeO.none _
      | refine LeO.ite ?_ ?_
      | refine LeO.bind ?_ (fun _ => ?_)
theorem spec_l12Draw.mono : ∀ a0 a1 a2 k, LeO (spec_l12Draw.f k a0 a1 a2) (spec_l12Draw.f (k + 1) a0 a1 a2) := by
  intro a0 a1 a2 k
  have ih0 := spec_l12Draw.mono_l k
  unfold spec_l12Draw.f
  repeat' first
      | (with_reducible exact ih0 _ _ _ _ _)
      | (with_reducible exact LeO.refl _)
      | (with_reducible exact LeO.none _)
      | (with_reducible refine LeO.ite ?_ ?_)
      | (with_reducible refine LeO.bind ?_ (fun _ => ?_))
      | exact ih0 _ _ _ _ _
      | exact LeO.none _
      | refine LeO.ite ?_ ?_
      | refine LeO.bind ?_ (fun _ => ?_)
set_option maxHeartbeats 8000000 in
set_option maxRecDepth 100000 in
theorem spec_l12Draw.calls (k : Nat) (g : Nat) (s0_0 : List Int) (s0_1 : Int) (s0_2 : Int) (r1 : List (S154)) (r2 : Int) (r3 : Int) (w0 w : World) (hI : IsS176 w0 w g s0_0 s0_1 s0_2) (hB : Below w0.heap.size w0 w) (h : spec_l12Draw.f k s0_0 s0_1 s0_2 = some (r1, r2, r3)) :
    Calls Try.prog 159 #[.pointer (some ⟨g, 0, none⟩)] w fun e w' => ∃ v0_ : Value, e = .returned (v0_) ∧ Kd.R k154 154 w' w.heap.size (fun _ => True) v0_ r1 ∧ IsS176 w0 w' g s0_0 r2 r3 ∧ Below w0.heap.size w0 w' ∧ KeepBut w w' g none := by
  have hu154 := Try.underlying154
  have HI0 := Aside0.mk hI
  have HK := Aside0.mk (KeepBut.refl w g none)
  have HL := Aside0.mk hB.size
  clear hI
  have HW0 := Aside0.mk hB.size
  have HB := Aside0.mk hB
  clear hB
  have H : ((spec_l1Below.f s0_0 s0_1 s0_2 5).bind fun bt1122 => (spec_l12Draw.l0 k (([] : List (S154))) bt1122.1 s0_0 bt1122.2.1 bt1122.2.2)) = some (r1, r2, r3) := h
  clear h
  obtain ⟨y1119, hy1119⟩ : ∃ y_ : List (S154), y_ = (([] : List (S154))) := ⟨_, rfl⟩
  replace H : ((spec_l1Below.f s0_0 s0_1 s0_2 5).bind fun bt1122 => (spec_l12Draw.l0 k y1119 bt1122.1 s0_0 bt1122.2.1 bt1122.2.2)) = some (r1, r2, r3) := by first | (rw [hy1119]; with_reducible exact H) | (have H2_ := (Option.bind_some _ _).symm.trans H; rw [hy1119]; with_reducible exact H2_) | (have H2_ := (Option.bind_some _ _).symm.trans H; with_reducible exact H2_) | with_reducible exact H | (rw [hy1119]; exact H) | exact H
  have Ny1119 := Aside0.mk hy1119
  clear hy1119
  replace H := Option.bind_eq_some_iff.mp H
  obtain ⟨⟨t1122, t1123, t1124⟩, A20, H⟩ := H
  replace H : (spec_l12Draw.l0 k y1119 t1122 s0_0 t1123 t1124) = some (r1, r2, r3) := H
  have A2 := Aside0.mk A20
  clear A20
  have H' := Aside0.mk H
  clear H
  go_enter Try.func159, Try.ntmps159
  go_wp2_with (first | ((with_reducible refine gate_dst (N := 6) rfl ?_); refine Kd.R_lit k154 _ 154 ?hg (N := 6) ?hd (xs := ([] : List (S154))) (inner := []) (ok := fun _ => True) (okp := fun _ => True) ?hr ?hp (fun _ hk => hk) trivial (Below.refl _ _) (Nat.le_refl _) (by simp) ?_; (case hd => rfl); (case hg => rfl); (case hr => first | (go_simp; done) | (go_simp; rfl)); (case hp => exact (Reps.none _ _)); intro v1120 w3 ho4 hb hg_ hnew_; clear hg_ hnew_; (first | rw [← Ny1119.out] at ho4 | (simp only [Int.reduceToNat] at ho4; rw [← Ny1119.out] at ho4)); have n0_ := Aside0.mk (Kd.R_lower ho4 (keep_size (w := w) (g := g) (row := none) (by repeat (first | (with_reducible first | exact HK.out | apply KeepBut.set_ | apply keep_drewN | apply keep_drew | apply keep_alloc) | exact HK.out)))); have n1_ := Aside0.mk (IsS176.below (by repeat (first | (with_reducible first | exact HI0.out | apply IsS176.alloc | apply IsS176.drewN | apply IsS176.drew | apply IsS176.set_1 | apply IsS176.set_2) | exact HI0.out)) hb); have n2_ := Aside0.mk (KeepBut.trans (by repeat (first | (with_reducible first | exact HK.out | apply KeepBut.set_ | apply keep_drewN | apply keep_drew | apply keep_alloc) | exact HK.out)) (KeepBut.of_below hb g none) (.inl rfl)); have n3_ := Aside0.mk (below_step (by repeat (first | (with_reducible first | exact HB.out | apply below_alloc | apply pw_below_drewN | apply below_drew1 | refine below_set ?_ (IsS176.ge HI0.out)) | exact HB.out)) hb); clear HI0; clear HK; clear HB; have HO1121 := n0_; have HI0 := n1_; have HK := n2_; have HB := n3_; clear n0_ n1_ n2_ n3_; clear hb ho4) | ((with_reducible refine gate_callee (f := 121) rfl ?_); refine goesL_ (some 8) rfl rfl Try.func121 (by kernel_rfl) rfl #[.pointer (some ⟨g, 0, none⟩), .int .i64 5] rfl (by (try simp only [List.map_toArray, List.map_cons, List.map_nil]); first | done | rfl | (simp only [List.length_drop, List.length_take]; rfl)) ?_; (with_reducible refine (spec_l1Below.calls g s0_0 s0_1 s0_2 5 t1122 t1123 t1124 w0 _ ?side1 ?side2 A2.out).mono ?_); (case side1 => repeat (first | (with_reducible first | exact HI0.out | apply IsS176.alloc | apply IsS176.drewN | apply IsS176.drew | apply IsS176.set_1 | apply IsS176.set_2) | exact HI0.out)); (case side2 => repeat (first | (with_reducible first | exact HB.out | apply below_alloc | apply pw_below_drewN | apply below_drew1 | refine below_set ?_ (IsS176.ge HI0.out)) | exact HB.out)); rintro e w5 ⟨rfl, hi, hb, hk⟩; refine ⟨_, rfl, ?_⟩; have n0_ := Aside0.mk (Kd.R_mono (Kd.R_keep (IsS176.apart (show IsS176 w0 _ g s0_0 s0_1 s0_2 from by repeat (first | (with_reducible first | exact HI0.out | apply IsS176.alloc | apply IsS176.drewN | apply IsS176.drew | apply IsS176.set_1 | apply IsS176.set_2) | exact HI0.out)) (by (with_reducible repeat (first | apply Kd.R_alloc | apply Kd.R_drewN | apply Kd.R_drew)); exact HO1121.out) (by decide)) hk (fun _ h => h.2)) (fun _ h => h.1)); have n1_ := Aside0.mk (KeepBut.trans (by repeat (first | (with_reducible first | exact HK.out | apply KeepBut.set_ | apply keep_drewN | apply keep_drew | apply keep_alloc) | exact HK.out)) hk (.inl rfl)); have n2_ := Aside0.mk (hb); have n3_ := Aside0.mk (hi); clear HO1121; clear HK; clear HB; clear HI0; have HO1121 := n0_; have HK := n1_; have HB := n2_; have HI0 := n3_; clear n0_ n1_ n2_ n3_; (try clear hb); (try clear hb2); (try clear hk); (try clear hi)))
  go_loopg [3, 4] k (fun kq v3 v4 w' => ∃ (x3_1 : List (S154)) (x4_1 : Int) (x1001_1 : Int) (x1002_1 : Int), v4 = .int .i64 x4_1 ∧ Aside0 (spec_l12Draw.l0 kq x3_1 x4_1 s0_0 x1001_1 x1002_1 = some (r1, r2, r3)) ∧ Aside0 (kq ≤ k) ∧ Aside0 (Kd.R k154 154 w' w.heap.size (fun _ => True) v3 x3_1) ∧ Aside0 (IsS176 w0 w' g s0_0 x1001_1 x1002_1) ∧ Aside0 (KeepBut w w' g none) ∧ Aside0 (Below w0.heap.size w0 w'))
  case atStart => exact ⟨(y1119), (t1122), (t1123), (t1124), (by first | rfl | (simp; done) | (simp [*]; done)), H', ⟨Nat.le_refl _⟩, ⟨by (with_reducible repeat (first | apply Kd.R_alloc | apply Kd.R_drewN | apply Kd.R_drew)); exact HO1121.out⟩, ⟨by repeat (first | (with_reducible first | exact HI0.out | apply IsS176.alloc | apply IsS176.drewN | apply IsS176.drew | apply IsS176.set_1 | apply IsS176.set_2) | exact HI0.out)⟩, ⟨by repeat (first | (with_reducible first | exact HK.out | apply KeepBut.set_ | apply keep_drewN | apply keep_drew | apply keep_alloc) | exact HK.out)⟩, ⟨by repeat (first | (with_reducible first | exact HB.out | apply below_alloc | apply pw_below_drewN | apply below_drew1 | refine below_set ?_ (IsS176.ge HI0.out)) | exact HB.out)⟩⟩
  case round =>
    clear H'
    try clear c1
    try clear p2
    obtain ⟨x3_1, x4_1, x1001_1, x1002_1, rfl, HA, HK1, HO_3, HI0, HK, HB⟩ := hrel
    cases gk with
    | zero => exact absurd HA.out (by simp [spec_l12Draw.l0])
    | succ k1 =>
      have H := HA.out
      clear HA
      simp only [spec_l12Draw.l0] at H
      by_cases c6 : x4_1 > 0
      · rw [if_pos c6] at H
        have c6b0 : decide (0 < x4_1) = true := decide_eq_true c6
        clear c6
        replace H := Option.bind_eq_some_iff.mp H
        obtain ⟨⟨t1125, t1126, t1127⟩, A70, H⟩ := H
        replace H : ((spec_l1Below.f s0_0 t1126 t1127 5).bind fun bt1128 => ((spec_l1Below.f s0_0 bt1128.2.1 bt1128.2.2 3).bind fun bt1131 => (if x3_1.length < 5864062014805 then (spec_l12Draw.l0 k1 (x3_1 ++ [(⟨wrap64 (1 + t1125), wrap64 ((wrap64 (1 + t1125)) + bt1128.1), wrap64 (1 + bt1131.1)⟩ : S154)]) (wrap64 (x4_1 - 1)) s0_0 bt1131.2.1 bt1131.2.2) else (none)))) = some (r1, r2, r3) := H
        have A7 := Aside0.mk A70
        clear A70
        replace H := Option.bind_eq_some_iff.mp H
        obtain ⟨⟨t1128, t1129, t1130⟩, A80, H⟩ := H
        replace H : ((spec_l1Below.f s0_0 t1129 t1130 3).bind fun bt1131 => (if x3_1.length < 5864062014805 then (spec_l12Draw.l0 k1 (x3_1 ++ [(⟨wrap64 (1 + t1125), wrap64 ((wrap64 (1 + t1125)) + t1128), wrap64 (1 + bt1131.1)⟩ : S154)]) (wrap64 (x4_1 - 1)) s0_0 bt1131.2.1 bt1131.2.2) else (none))) = some (r1, r2, r3) := H
        have A8 := Aside0.mk A80
        clear A80
        replace H := Option.bind_eq_some_iff.mp H
        obtain ⟨⟨t1131, t1132, t1133⟩, A90, H⟩ := H
        replace H : (if x3_1.length < 5864062014805 then (spec_l12Draw.l0 k1 (x3_1 ++ [(⟨wrap64 (1 + t1125), wrap64 ((wrap64 (1 + t1125)) + t1128), wrap64 (1 + t1131)⟩ : S154)]) (wrap64 (x4_1 - 1)) s0_0 t1132 t1133) else (none)) = some (r1, r2, r3) := H
        have A9 := Aside0.mk A90
        clear A90
        by_cases c10 : x3_1.length < 5864062014805
        · rw [if_pos c10] at H
          have LMc10 := Aside0.mk c10
          clear c10
          obtain ⟨y1134, hy1134⟩ : ∃ y_ : List (S154), y_ = (x3_1 ++ [(⟨wrap64 (1 + t1125), wrap64 ((wrap64 (1 + t1125)) + t1128), wrap64 (1 + t1131)⟩ : S154)]) := ⟨_, rfl⟩
          replace H : (spec_l12Draw.l0 k1 y1134 (wrap64 (x4_1 - 1)) s0_0 t1132 t1133) = some (r1, r2, r3) := by first | (rw [hy1134]; with_reducible exact H) | (have H2_ := (Option.bind_some _ _).symm.trans H; rw [hy1134]; with_reducible exact H2_) | (have H2_ := (Option.bind_some _ _).symm.trans H; with_reducible exact H2_) | with_reducible exact H | (rw [hy1134]; exact H) | exact H
          have Ny1134 := Aside0.mk hy1134
          clear hy1134
          have H' := Aside0.mk H
          clear H
          go_wp2_with (first | ((with_reducible refine gate_callee (f := 121) rfl ?_); refine goesL_ (some 14) rfl rfl Try.func121 (by kernel_rfl) rfl #[.pointer (some ⟨g, 0, none⟩), .int .i64 9] rfl (by (try simp only [List.map_toArray, List.map_cons, List.map_nil]); first | done | rfl | (simp only [List.length_drop, List.length_take]; rfl)) ?_; (with_reducible refine (spec_l1Below.calls g s0_0 x1001_1 x1002_1 9 t1125 t1126 t1127 w0 _ ?side1 ?side2 A7.out).mono ?_); (case side1 => repeat (first | (with_reducible first | exact HI0.out | apply IsS176.alloc | apply IsS176.drewN | apply IsS176.drew | apply IsS176.set_1 | apply IsS176.set_2) | exact HI0.out)); (case side2 => repeat (first | (with_reducible first | exact HB.out | apply below_alloc | apply pw_below_drewN | apply below_drew1 | refine below_set ?_ (IsS176.ge HI0.out)) | exact HB.out)); rintro e w11 ⟨rfl, hi, hb, hk⟩; refine ⟨_, rfl, ?_⟩; have n0_ := Aside0.mk (Kd.R_mono (Kd.R_keep (IsS176.apart (show IsS176 w0 _ g s0_0 x1001_1 x1002_1 from by repeat (first | (with_reducible first | exact HI0.out | apply IsS176.alloc | apply IsS176.drewN | apply IsS176.drew | apply IsS176.set_1 | apply IsS176.set_2) | exact HI0.out)) (by (with_reducible repeat (first | apply Kd.R_alloc | apply Kd.R_drewN | apply Kd.R_drew)); exact HO_3.out) (by decide)) hk (fun _ h => h.2)) (fun _ h => h.1)); have n1_ := Aside0.mk (KeepBut.trans (by repeat (first | (with_reducible first | exact HK.out | apply KeepBut.set_ | apply keep_drewN | apply keep_drew | apply keep_alloc) | exact HK.out)) hk (.inl rfl)); have n2_ := Aside0.mk (hb); have n3_ := Aside0.mk (hi); clear HO_3; clear HK; clear HB; clear HI0; have HO_3 := n0_; have HK := n1_; have HB := n2_; have HI0 := n3_; clear n0_ n1_ n2_ n3_; (try clear hb); (try clear hb2); (try clear hk); (try clear hi)) | ((with_reducible refine gate_callee (f := 121) rfl ?_); refine goesL_ (some 20) rfl rfl Try.func121 (by kernel_rfl) rfl #[.pointer (some ⟨g, 0, none⟩), .int .i64 5] rfl (by (try simp only [List.map_toArray, List.map_cons, List.map_nil]); first | done | rfl | (simp only [List.length_drop, List.length_take]; rfl)) ?_; (with_reducible refine (spec_l1Below.calls g s0_0 t1126 t1127 5 t1128 t1129 t1130 w0 _ ?side1 ?side2 A8.out).mono ?_); (case side1 => repeat (first | (with_reducible first | exact HI0.out | apply IsS176.alloc | apply IsS176.drewN | apply IsS176.drew | apply IsS176.set_1 | apply IsS176.set_2) | exact HI0.out)); (case side2 => repeat (first | (with_reducible first | exact HB.out | apply below_alloc | apply pw_below_drewN | apply below_drew1 | refine below_set ?_ (IsS176.ge HI0.out)) | exact HB.out)); rintro e w12 ⟨rfl, hi, hb, hk⟩; refine ⟨_, rfl, ?_⟩; have n0_ := Aside0.mk (Kd.R_mono (Kd.R_keep (IsS176.apart (show IsS176 w0 _ g s0_0 t1126 t1127 from by repeat (first | (with_reducible first | exact HI0.out | apply IsS176.alloc | apply IsS176.drewN | apply IsS176.drew | apply IsS176.set_1 | apply IsS176.set_2) | exact HI0.out)) (by (with_reducible repeat (first | apply Kd.R_alloc | apply Kd.R_drewN | apply Kd.R_drew)); exact HO_3.out) (by decide)) hk (fun _ h => h.2)) (fun _ h => h.1)); have n1_ := Aside0.mk (KeepBut.trans (by repeat (first | (with_reducible first | exact HK.out | apply KeepBut.set_ | apply keep_drewN | apply keep_drew | apply keep_alloc) | exact HK.out)) hk (.inl rfl)); have n2_ := Aside0.mk (hb); have n3_ := Aside0.mk (hi); clear HO_3; clear HK; clear HB; clear HI0; have HO_3 := n0_; have HK := n1_; have HB := n2_; have HI0 := n3_; clear n0_ n1_ n2_ n3_; (try clear hb); (try clear hb2); (try clear hk); (try clear hi)) | ((with_reducible refine gate_callee (f := 121) rfl ?_); refine goesL_ (some 23) rfl rfl Try.func121 (by kernel_rfl) rfl #[.pointer (some ⟨g, 0, none⟩), .int .i64 3] rfl (by (try simp only [List.map_toArray, List.map_cons, List.map_nil]); first | done | rfl | (simp only [List.length_drop, List.length_take]; rfl)) ?_; (with_reducible refine (spec_l1Below.calls g s0_0 t1129 t1130 3 t1131 t1132 t1133 w0 _ ?side1 ?side2 A9.out).mono ?_); (case side1 => repeat (first | (with_reducible first | exact HI0.out | apply IsS176.alloc | apply IsS176.drewN | apply IsS176.drew | apply IsS176.set_1 | apply IsS176.set_2) | exact HI0.out)); (case side2 => repeat (first | (with_reducible first | exact HB.out | apply below_alloc | apply pw_below_drewN | apply below_drew1 | refine below_set ?_ (IsS176.ge HI0.out)) | exact HB.out)); rintro e w13 ⟨rfl, hi, hb, hk⟩; refine ⟨_, rfl, ?_⟩; have n0_ := Aside0.mk (Kd.R_mono (Kd.R_keep (IsS176.apart (show IsS176 w0 _ g s0_0 t1129 t1130 from by repeat (first | (with_reducible first | exact HI0.out | apply IsS176.alloc | apply IsS176.drewN | apply IsS176.drew | apply IsS176.set_1 | apply IsS176.set_2) | exact HI0.out)) (by (with_reducible repeat (first | apply Kd.R_alloc | apply Kd.R_drewN | apply Kd.R_drew)); exact HO_3.out) (by decide)) hk (fun _ h => h.2)) (fun _ h => h.1)); have n1_ := Aside0.mk (KeepBut.trans (by repeat (first | (with_reducible first | exact HK.out | apply KeepBut.set_ | apply keep_drewN | apply keep_drew | apply keep_alloc) | exact HK.out)) hk (.inl rfl)); have n2_ := Aside0.mk (hb); have n3_ := Aside0.mk (hi); clear HO_3; clear HK; clear HB; clear HI0; have HO_3 := n0_; have HK := n1_; have HB := n2_; have HI0 := n3_; clear n0_ n1_ n2_ n3_; (try clear hb); (try clear hb2); (try clear hk); (try clear hi)) | ((with_reducible refine gate_builtin (b := .append) (xs := #[.tmp 16, .tmp 26]) rfl ?_); at_builtin; refine Kd.R_append k154 w.heap.size rfl (.tmp 16) (.tmp 26) 81 154 (.agg #[(.int .i64 0), (.int .i64 0), (.int .i64 0)]) 24 rfl Try.underlying81 info154 rfl (by decide) (by omega) u3 x3_1 (⟨wrap64 (1 + t1125), wrap64 ((wrap64 (1 + t1125)) + t1128), wrap64 (1 + t1131)⟩ : S154) [.int .i64 (wrap64 (1 + t1125)), .int .i64 (wrap64 ((wrap64 (1 + t1125)) + t1128)), .int .i64 (wrap64 (1 + t1131))] (fun _ => True) (fun _ => False) rfl rfl ?aP (fun _ hk => hk.elim) ?aF ?aO (Below.refl _ _) ?aS ?aL ?_; (case aP => exact k154_mkM _ _ _ (⟨wrap64 (1 + t1125), wrap64 ((wrap64 (1 + t1125)) + t1128), wrap64 (1 + t1131)⟩ : S154)); (case aF => exact (fun _ _ => trivial)); (case aO => exact (by (with_reducible repeat (first | apply Kd.R_alloc | apply Kd.R_drewN | apply Kd.R_drew)); exact HO_3.out)); (case aS => exact (keep_size (w := w) (g := g) (row := none) (by repeat (first | (with_reducible first | exact HK.out | apply KeepBut.set_ | apply keep_drewN | apply keep_drew | apply keep_alloc) | exact HK.out)))); (case aL => have := LMc10.out; omega); intro v1135 w14 ho hb hg hat; rw [← Ny1134.out] at ho; have n0_ := Aside0.mk (IsS176.grown (by repeat (first | (with_reducible first | exact HI0.out | apply IsS176.alloc | apply IsS176.drewN | apply IsS176.drew | apply IsS176.set_1 | apply IsS176.set_2) | exact HI0.out)) hg (IsS176.own_ne HI0.out HO_3.out (by decide))); have n1_ := Aside0.mk (below_weaken (by repeat (first | (with_reducible first | exact HB.out | apply below_alloc | apply pw_below_drewN | apply below_drew1 | refine below_set ?_ (IsS176.ge HI0.out)) | exact HB.out)) HL.out hb); have n2_ := Aside0.mk (KeepBut.trans (by repeat (first | (with_reducible first | exact HK.out | apply KeepBut.set_ | apply keep_drewN | apply keep_drew | apply keep_alloc) | exact HK.out)) (KeepBut.of_grown hg g) (Kd.R_base2 HO_3.out)); have n3_ := Aside0.mk (ho); clear HI0; clear HB; clear HK; clear HO_3; have HI0 := n0_; have HB := n1_; have HK := n2_; have HO1136 := n3_; clear n0_ n1_ n2_ n3_; clear ho hb hg hat))
          go_roundg k1
          case measure => have := HK1.out; omega
          case rel => exact ⟨(y1134), (wrap64 (x4_1 - 1)), (t1132), (t1133), (by first | rfl | (simp; done) | (simp [*]; done)), H', ⟨by have := HK1.out; omega⟩, ⟨by (with_reducible repeat (first | apply Kd.R_alloc | apply Kd.R_drewN | apply Kd.R_drew)); exact HO1136.out⟩, ⟨by repeat (first | (with_reducible first | exact HI0.out | apply IsS176.alloc | apply IsS176.drewN | apply IsS176.drew | apply IsS176.set_1 | apply IsS176.set_2) | exact HI0.out)⟩, ⟨by repeat (first | (with_reducible first | exact HK.out | apply KeepBut.set_ | apply keep_drewN | apply keep_drew | apply keep_alloc) | exact HK.out)⟩, ⟨by repeat (first | (with_reducible first | exact HB.out | apply below_alloc | apply pw_below_drewN | apply below_drew1 | refine below_set ?_ (IsS176.ge HI0.out)) | exact HB.out)⟩⟩
        · rw [if_neg c10] at H
          exact absurd H (by simp)
      · rw [if_neg c6] at H
        have c6b0 : decide (0 < x4_1) = false := decide_eq_false c6
        clear c6
        simp only [Option.some.injEq, Prod.mk.injEq] at H
        obtain ⟨rfl, rfl, rfl⟩ := H
        go_wp2
        go_ret
        exact ⟨_, by first | rfl | (simp [errW_none, errW_some] <;> rfl) | (simp [*, errW_none, errW_some] <;> rfl), by (with_reducible repeat (first | apply Kd.R_alloc | apply Kd.R_drewN | apply Kd.R_drew)); exact HO_3.out, by repeat (first | (with_reducible first | exact HI0.out | apply IsS176.alloc | apply IsS176.drewN | apply IsS176.drew | apply IsS176.set_1 | apply IsS176.set_2) | exact HI0.out), by repeat (first | (with_reducible first | exact HB.out | apply below_alloc | apply pw_below_drewN | apply below_drew1 | refine below_set ?_ (IsS176.ge HI0.out)) | exact HB.out), by repeat (first | (with_reducible first | exact HK.out | apply KeepBut.set_ | apply keep_drewN | apply keep_drew | apply keep_alloc) | exact HK.out)⟩

end Go.Proofs.Ytiophiipmgpaeaa.F
