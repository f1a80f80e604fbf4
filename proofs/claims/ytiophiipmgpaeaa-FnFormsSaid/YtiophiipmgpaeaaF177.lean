-- Written for this claim by the kit's print.py out of the translation, called by wip/tools/fprint.py. Lean checks it.
import Derived.Test.YtiophiipmgpaeaaF0
import Derived.Test.YtiophiipmgpaeaaF159
import Derived.Test.YtiophiipmgpaeaaF166
import Derived.Test.YtiophiipmgpaeaaF168
import Derived.Test.YtiophiipmgpaeaaF169
import Derived.Test.YtiophiipmgpaeaaF171
import Derived.Test.YtiophiipmgpaeaaF173
import Derived.Test.YtiophiipmgpaeaaF174
import Derived.Test.YtiophiipmgpaeaaF175
import Derived.Test.YtiophiipmgpaeaaF176
namespace Go.Proofs.Ytiophiipmgpaeaa.F
open Go.RowKit Go.Proofs.YtiophiipmgpaeaaW.PrintWords Go.Proofs.YtiophiipmgpaeaaW.PrintLast Go.Proofs.YtiophiipmgpaeaaW.PrintMore
attribute [local go_sem] max2_int min2_int max_two min_two max_three min_three max_four min_four   -- for this text's walks alone
set_option linter.unusedVariables false
set_option linter.unusedSimpArgs false

/-! ### laws_FnForms: function 13 -/
mutual
def laws_FnForms.j0 : Nat → List (S154) → List Int → Bool → Option (Bool)
  | 0, _, _, _ => none
  | k + 1, x3, x5, x64 => if x64 = true then (some false) else (laws_FnForms.l0 k x3 x5 0 1)
def laws_FnForms.l0 : Nat → List (S154) → List Int → Int → Int → Option (Bool)
  | 0, _, _, _, _ => none
  | k + 1, x3, x5, x7, x8 => if x8 ≤ 100 then ((impl_CountTimes.f k x3 x8).bind fun t1269 => ((impl_FirstTime.f k x3 x8).bind fun t1270 => (if ((decide (t1269 > 0)) != (decide (t1270 > 0))) = true then (some false) else (laws_FnForms.l0 k x3 x5 (wrap64 (x7 + t1269)) (wrap64 (x8 + 1)))))) else (if x7 = (x5.length : Int) then (if (x5.length : Int) ≤ 200 then ((impl_IsForm.f k x3).bind fun t1268 => (if t1268 = true then (some true) else (some ((x5.length : Int) == 0)))) else (some false)) else (some false))
end
def laws_FnForms.f (k : Nat) (l0 : List Int) : Option (Bool) := (laws_big.f l0).bind fun t1250 => (if t1250 = true then (some true) else ((spec_DrawWrittenBar.f k l0).bind fun bt1251 => ((impl_Unfold.f k bt1251.1).bind fun t1255 => ((spec_Unfold.f k bt1251.1).bind fun t1258 => (if (t1255.length : Int) = (t1258.length : Int) then ((impl_WrittenBar.f k bt1251.1 bt1251.2).bind fun t1261 => (if bt1251.2 ≥ 1 then (if ((decide (t1261 > 0)) != (decide (bt1251.2 ≤ (t1255.length : Int)))) = true then (laws_FnForms.j0 k bt1251.1 t1255 true) else (if t1261 > 0 then (if 0 ≤ (wrap64 (bt1251.2 - 1)) then (if (wrap64 (bt1251.2 - 1)) < (t1255.length : Int) then (if (rd t1255 (wrap64 (bt1251.2 - 1))) = t1261 then ((impl_PassOf.f k bt1251.1 bt1251.2).bind fun t1263 => (if t1263 < 1 then (laws_FnForms.j0 k bt1251.1 t1255 true) else ((impl_FirstTime.f k bt1251.1 t1261).bind fun t1264 => (laws_FnForms.j0 k bt1251.1 t1255 (decide (t1264 > bt1251.2)))))) else (laws_FnForms.j0 k bt1251.1 t1255 true)) else (none)) else (none)) else (laws_FnForms.j0 k bt1251.1 t1255 false))) else (if ((decide (t1261 > 0)) != false) = true then (laws_FnForms.j0 k bt1251.1 t1255 true) else (if t1261 > 0 then (if 0 ≤ (wrap64 (bt1251.2 - 1)) then (if (wrap64 (bt1251.2 - 1)) < (t1255.length : Int) then (if (rd t1255 (wrap64 (bt1251.2 - 1))) = t1261 then ((impl_PassOf.f k bt1251.1 bt1251.2).bind fun t1266 => (if t1266 < 1 then (laws_FnForms.j0 k bt1251.1 t1255 true) else ((impl_FirstTime.f k bt1251.1 t1261).bind fun t1267 => (laws_FnForms.j0 k bt1251.1 t1255 (decide (t1267 > bt1251.2)))))) else (laws_FnForms.j0 k bt1251.1 t1255 true)) else (none)) else (none)) else (laws_FnForms.j0 k bt1251.1 t1255 false))))) else (some false))))))
theorem laws_FnForms.mono_l : ∀ k, (∀ y0 y1 y2, LeO (laws_FnForms.j0 k y0 y1 y2) (laws_FnForms.j0 (k + 1) y0 y1 y2)) ∧ (∀ y0 y1 y2 y3, LeO (laws_FnForms.l0 k y0 y1 y2 y3) (laws_FnForms.l0 (k + 1) y0 y1 y2 y3))
  | 0 => ⟨fun _ _ _ r h => by simp [laws_FnForms.j0] at h, fun _ _ _ _ r h => by simp [laws_FnForms.l0] at h⟩
  | k + 1 => by
    obtain ⟨ih0, ih1⟩ := laws_FnForms.mono_l k
    refine ⟨?_, ?_⟩
    · intro y0 y1 y2
      unfold laws_FnForms.j0
      repeat' first
      | (with_reducible exact ih0 _ _ _)
      | (with_reducible exact ih1 _ _ _ _)
      | (with_reducible exact impl_CountTimes.mono _ _ _)
      | (with_reducible exact impl_FirstTime.mono _ _ _)
      | (with_reducible exact impl_IsForm.mono _ _)
      | (with_reducible exact impl_PassOf.mono _ _ _)
      | (with_reducible exact impl_Unfold.mono _ _)
      | (with_reducible exact impl_WrittenBar.mono _ _ _)
      | (with_reducible exact spec_DrawWrittenBar.mono _ _)
      | (with_reducible exact spec_Unfold.mono _ _)
      | (with_reducible exact LeO.refl _)
      | (with_reducible exact LeO.none _)
      | (with_reducible refine LeO.ite ?_ ?_)
      | (with_reducible refine LeO.bind ?_ (fun _ => ?_))
      | exact ih0 _ _ _
      | exact ih1 _ _ _ _
      | exact impl_CountTimes.mono _ _ _
      | exact impl_FirstTime.mono _ _ _
      | exact impl_IsForm.mono _ _
      | exact impl_PassOf.mono _ _ _
      | exact impl_Unfold.mono _ _
      | exact impl_WrittenBar.mono _ _ _
      | exact spec_DrawWrittenBar.mono _ _
      | exact spec_Unfold.mono _ _
      | exact LeO.none _
      | refine LeO.ite ?_ ?_
      | refine LeO.bind ?_ (fun _ => ?_)
    · intro y0 y1 y2 y3
      unfold laws_FnForms.l0
      repeat' first
      | (with_reducible exact ih0 _ _ _)
      | (with_reducible exact ih1 _ _ _ _)
      | (with_reducible exact impl_CountTimes.mono _ _ _)
      | (with_reducible exact impl_FirstTime.mono _ _ _)
      | (with_reducible exact impl_IsForm.mono _ _)
      | (with_reducible exact impl_PassOf.mono _ _ _)
      | (with_reducible exact impl_Unfold.mono _ _)
      | (with_reducible exact impl_WrittenBar.mono _ _ _)
      | (with_reducible exact spec_DrawWrittenBar.mono _ _)
      | (with_reducible exact spec_Unfold.mono _ _)
      | (with_reducible exact LeO.refl _)
      | (with_reducible exact LeO.none _)
      | (with_reducible refine LeO.ite ?_ ?_)
      | (with_reducible refine LeO.bind ?_ (fun _ => ?_))
      | exact ih0 _ _ _
      | exact ih1 _ _ _ _
      | exact impl_CountTimes.mono _ _ _
      | exact impl_FirstTime.mono _ _ _
      | exact impl_IsForm.mono _ _
      | exact impl_PassOf.mono _ _ _
      | exact impl_Unfold.mono _ _
      | exact impl_WrittenBar.mono _ _ _
      | exact spec_DrawWrittenBar.mono _ _
      | exact spec_Unfold.mono _ _
      | exact LeO.none _
      | refine LeO.ite ?_ ?_
      | refine LeO.bind ?_ (fun _ => ?_)
theorem laws_FnForms.mono : ∀ a0 k, LeO (laws_FnForms.f k a0) (laws_FnForms.f (k + 1) a0) := by
  intro a0 k
  obtain ⟨ih0, ih1⟩ := laws_FnForms.mono_l k
  unfold laws_FnForms.f
  repeat' first
      | (with_reducible exact ih0 _ _ _)
      | (with_reducible exact ih1 _ _ _ _)
      | (with_reducible exact impl_CountTimes.mono _ _ _)
      | (with_reducible exact impl_FirstTime.mono _ _ _)
      | (with_reducible exact impl_IsForm.mono _ _)
      | (with_reducible exact impl_PassOf.mono _ _ _)
      | (with_reducible exact impl_Unfold.mono _ _)
      | (with_reducible exact impl_WrittenBar.mono _ _ _)
      | (with_reducible exact spec_DrawWrittenBar.mono _ _)
      | (with_reducible exact spec_Unfold.mono _ _)
      | (with_reducible exact LeO.refl _)
      | (with_reducible exact LeO.none _)
      | (with_reducible refine LeO.ite ?_ ?_)
      | (with_reducible refine LeO.bind ?_ (fun _ => ?_))
      | exact ih0 _ _ _
      | exact ih1 _ _ _ _
      | exact impl_CountTimes.mono _ _ _
      | exact impl_FirstTime.mono _ _ _
      | exact impl_IsForm.mono _ _
      | exact impl_PassOf.mono _ _ _
      | exact impl_Unfold.mono _ _
      | exact impl_WrittenBar.mono _ _ _
      | exact spec_DrawWrittenBar.mono _ _
      | exact spec_Unfold.mono _ _
      | exact LeO.none _
      | refine LeO.ite ?_ ?_
      | refine LeO.bind ?_ (fun _ => ?_)
set_option maxHeartbeats 8000000 in
set_option maxRecDepth 100000 in
theorem laws_FnForms.calls (k : Nat) (A0 : Option Addr) (c0 : Nat) (l0 : List Int) (r : Bool) (w : World) (hr0 : Kd.C (Kd.int .u8) w A0 l0.length l0) (hc0 : l0.length ≤ c0) (h : laws_FnForms.f k l0 = some r) :
    Calls Try.prog 13 #[.slice A0 l0.length c0] w fun e w' => e = .returned (.bool r) ∧ Below w.heap.size w w' := by
  have HR0 := Aside0.mk hr0
  have HC0 := Aside0.mk hc0
  clear hr0 hc0
  have HB := Aside0.mk (Below.refl w.heap.size w)
  have H : ((laws_big.f l0).bind fun t1250 => (if t1250 = true then (some true) else ((spec_DrawWrittenBar.f k l0).bind fun bt1251 => ((impl_Unfold.f k bt1251.1).bind fun t1255 => ((spec_Unfold.f k bt1251.1).bind fun t1258 => (if (t1255.length : Int) = (t1258.length : Int) then ((impl_WrittenBar.f k bt1251.1 bt1251.2).bind fun t1261 => (if bt1251.2 ≥ 1 then (if ((decide (t1261 > 0)) != (decide (bt1251.2 ≤ (t1255.length : Int)))) = true then (laws_FnForms.j0 k bt1251.1 t1255 true) else (if t1261 > 0 then (if 0 ≤ (wrap64 (bt1251.2 - 1)) then (if (wrap64 (bt1251.2 - 1)) < (t1255.length : Int) then (if (rd t1255 (wrap64 (bt1251.2 - 1))) = t1261 then ((impl_PassOf.f k bt1251.1 bt1251.2).bind fun t1263 => (if t1263 < 1 then (laws_FnForms.j0 k bt1251.1 t1255 true) else ((impl_FirstTime.f k bt1251.1 t1261).bind fun t1264 => (laws_FnForms.j0 k bt1251.1 t1255 (decide (t1264 > bt1251.2)))))) else (laws_FnForms.j0 k bt1251.1 t1255 true)) else (none)) else (none)) else (laws_FnForms.j0 k bt1251.1 t1255 false))) else (if ((decide (t1261 > 0)) != false) = true then (laws_FnForms.j0 k bt1251.1 t1255 true) else (if t1261 > 0 then (if 0 ≤ (wrap64 (bt1251.2 - 1)) then (if (wrap64 (bt1251.2 - 1)) < (t1255.length : Int) then (if (rd t1255 (wrap64 (bt1251.2 - 1))) = t1261 then ((impl_PassOf.f k bt1251.1 bt1251.2).bind fun t1266 => (if t1266 < 1 then (laws_FnForms.j0 k bt1251.1 t1255 true) else ((impl_FirstTime.f k bt1251.1 t1261).bind fun t1267 => (laws_FnForms.j0 k bt1251.1 t1255 (decide (t1267 > bt1251.2)))))) else (laws_FnForms.j0 k bt1251.1 t1255 true)) else (none)) else (none)) else (laws_FnForms.j0 k bt1251.1 t1255 false))))) else (some false))))))) = some r := h
  clear h
  replace H := Option.bind_eq_some_iff.mp H
  obtain ⟨t1250, A20, H⟩ := H
  replace H : (if t1250 = true then (some true) else ((spec_DrawWrittenBar.f k l0).bind fun bt1251 => ((impl_Unfold.f k bt1251.1).bind fun t1255 => ((spec_Unfold.f k bt1251.1).bind fun t1258 => (if (t1255.length : Int) = (t1258.length : Int) then ((impl_WrittenBar.f k bt1251.1 bt1251.2).bind fun t1261 => (if bt1251.2 ≥ 1 then (if ((decide (t1261 > 0)) != (decide (bt1251.2 ≤ (t1255.length : Int)))) = true then (laws_FnForms.j0 k bt1251.1 t1255 true) else (if t1261 > 0 then (if 0 ≤ (wrap64 (bt1251.2 - 1)) then (if (wrap64 (bt1251.2 - 1)) < (t1255.length : Int) then (if (rd t1255 (wrap64 (bt1251.2 - 1))) = t1261 then ((impl_PassOf.f k bt1251.1 bt1251.2).bind fun t1263 => (if t1263 < 1 then (laws_FnForms.j0 k bt1251.1 t1255 true) else ((impl_FirstTime.f k bt1251.1 t1261).bind fun t1264 => (laws_FnForms.j0 k bt1251.1 t1255 (decide (t1264 > bt1251.2)))))) else (laws_FnForms.j0 k bt1251.1 t1255 true)) else (none)) else (none)) else (laws_FnForms.j0 k bt1251.1 t1255 false))) else (if ((decide (t1261 > 0)) != false) = true then (laws_FnForms.j0 k bt1251.1 t1255 true) else (if t1261 > 0 then (if 0 ≤ (wrap64 (bt1251.2 - 1)) then (if (wrap64 (bt1251.2 - 1)) < (t1255.length : Int) then (if (rd t1255 (wrap64 (bt1251.2 - 1))) = t1261 then ((impl_PassOf.f k bt1251.1 bt1251.2).bind fun t1266 => (if t1266 < 1 then (laws_FnForms.j0 k bt1251.1 t1255 true) else ((impl_FirstTime.f k bt1251.1 t1261).bind fun t1267 => (laws_FnForms.j0 k bt1251.1 t1255 (decide (t1267 > bt1251.2)))))) else (laws_FnForms.j0 k bt1251.1 t1255 true)) else (none)) else (none)) else (laws_FnForms.j0 k bt1251.1 t1255 false))))) else (some false)))))) = some r := H
  have A2 := Aside0.mk A20
  clear A20
  by_cases c3 : t1250 = true
  · subst c3
    have H1 : (some true) = some r := by rw [if_pos rfl] at H; exact H
    clear H
    have H := H1
    clear H1
    obtain rfl := Option.some.inj H
    go_enter Try.func13, Try.ntmps13
    go_wp2_with (first | ((with_reducible refine gate_callee (f := 62) rfl ?_); refine goesL_ (some 11) rfl rfl Try.func62 (by kernel_rfl) rfl #[.slice A0 l0.length c0] rfl (by (try simp only [List.map_toArray, List.map_cons, List.map_nil]); first | done | rfl | (simp only [List.length_drop, List.length_take]; rfl)) ?_; (with_reducible refine (laws_big.calls _ _ l0 true _ ?side1 ?side2 A2.out).mono ?_); (case side1 => repeat (first | exact HR0.out | (with_reducible refine Kd.C_alloc ?_ _) | (with_reducible refine Kd.C_drewN ?_ _) | (with_reducible refine Kd.C_drew ?_))); (case side2 => exact HC0.out); rintro e w' ⟨rfl, ⟨nd, rfl⟩⟩; refine ⟨_, rfl, ?_⟩))
    go_ret
    exact ⟨by first | rfl | (simp [errW_none, errW_some] <;> rfl) | (simp [*, errW_none, errW_some] <;> rfl), by repeat (first | (with_reducible first | exact HB.out | apply below_alloc | apply pw_below_drewN | apply below_drew1) | exact HB.out)⟩
  · replace c3 := Bool.eq_false_iff.mpr c3
    subst c3
    have H1 : ((spec_DrawWrittenBar.f k l0).bind fun bt1251 => ((impl_Unfold.f k bt1251.1).bind fun t1255 => ((spec_Unfold.f k bt1251.1).bind fun t1258 => (if (t1255.length : Int) = (t1258.length : Int) then ((impl_WrittenBar.f k bt1251.1 bt1251.2).bind fun t1261 => (if bt1251.2 ≥ 1 then (if ((decide (t1261 > 0)) != (decide (bt1251.2 ≤ (t1255.length : Int)))) = true then (laws_FnForms.j0 k bt1251.1 t1255 true) else (if t1261 > 0 then (if 0 ≤ (wrap64 (bt1251.2 - 1)) then (if (wrap64 (bt1251.2 - 1)) < (t1255.length : Int) then (if (rd t1255 (wrap64 (bt1251.2 - 1))) = t1261 then ((impl_PassOf.f k bt1251.1 bt1251.2).bind fun t1263 => (if t1263 < 1 then (laws_FnForms.j0 k bt1251.1 t1255 true) else ((impl_FirstTime.f k bt1251.1 t1261).bind fun t1264 => (laws_FnForms.j0 k bt1251.1 t1255 (decide (t1264 > bt1251.2)))))) else (laws_FnForms.j0 k bt1251.1 t1255 true)) else (none)) else (none)) else (laws_FnForms.j0 k bt1251.1 t1255 false))) else (if ((decide (t1261 > 0)) != false) = true then (laws_FnForms.j0 k bt1251.1 t1255 true) else (if t1261 > 0 then (if 0 ≤ (wrap64 (bt1251.2 - 1)) then (if (wrap64 (bt1251.2 - 1)) < (t1255.length : Int) then (if (rd t1255 (wrap64 (bt1251.2 - 1))) = t1261 then ((impl_PassOf.f k bt1251.1 bt1251.2).bind fun t1266 => (if t1266 < 1 then (laws_FnForms.j0 k bt1251.1 t1255 true) else ((impl_FirstTime.f k bt1251.1 t1261).bind fun t1267 => (laws_FnForms.j0 k bt1251.1 t1255 (decide (t1267 > bt1251.2)))))) else (laws_FnForms.j0 k bt1251.1 t1255 true)) else (none)) else (none)) else (laws_FnForms.j0 k bt1251.1 t1255 false))))) else (some false))))) = some r := by rw [if_neg (show ¬ (false = true) by decide)] at H; exact H
    clear H
    have H := H1
    clear H1
    replace H := Option.bind_eq_some_iff.mp H
    obtain ⟨⟨t1251, t1252⟩, A40, H⟩ := H
    replace H : ((impl_Unfold.f k t1251).bind fun t1255 => ((spec_Unfold.f k t1251).bind fun t1258 => (if (t1255.length : Int) = (t1258.length : Int) then ((impl_WrittenBar.f k t1251 t1252).bind fun t1261 => (if t1252 ≥ 1 then (if ((decide (t1261 > 0)) != (decide (t1252 ≤ (t1255.length : Int)))) = true then (laws_FnForms.j0 k t1251 t1255 true) else (if t1261 > 0 then (if 0 ≤ (wrap64 (t1252 - 1)) then (if (wrap64 (t1252 - 1)) < (t1255.length : Int) then (if (rd t1255 (wrap64 (t1252 - 1))) = t1261 then ((impl_PassOf.f k t1251 t1252).bind fun t1263 => (if t1263 < 1 then (laws_FnForms.j0 k t1251 t1255 true) else ((impl_FirstTime.f k t1251 t1261).bind fun t1264 => (laws_FnForms.j0 k t1251 t1255 (decide (t1264 > t1252)))))) else (laws_FnForms.j0 k t1251 t1255 true)) else (none)) else (none)) else (laws_FnForms.j0 k t1251 t1255 false))) else (if ((decide (t1261 > 0)) != false) = true then (laws_FnForms.j0 k t1251 t1255 true) else (if t1261 > 0 then (if 0 ≤ (wrap64 (t1252 - 1)) then (if (wrap64 (t1252 - 1)) < (t1255.length : Int) then (if (rd t1255 (wrap64 (t1252 - 1))) = t1261 then ((impl_PassOf.f k t1251 t1252).bind fun t1266 => (if t1266 < 1 then (laws_FnForms.j0 k t1251 t1255 true) else ((impl_FirstTime.f k t1251 t1261).bind fun t1267 => (laws_FnForms.j0 k t1251 t1255 (decide (t1267 > t1252)))))) else (laws_FnForms.j0 k t1251 t1255 true)) else (none)) else (none)) else (laws_FnForms.j0 k t1251 t1255 false))))) else (some false)))) = some r := H
    have A4 := Aside0.mk A40
    clear A40
    replace H := Option.bind_eq_some_iff.mp H
    obtain ⟨t1255, A50, H⟩ := H
    replace H : ((spec_Unfold.f k t1251).bind fun t1258 => (if (t1255.length : Int) = (t1258.length : Int) then ((impl_WrittenBar.f k t1251 t1252).bind fun t1261 => (if t1252 ≥ 1 then (if ((decide (t1261 > 0)) != (decide (t1252 ≤ (t1255.length : Int)))) = true then (laws_FnForms.j0 k t1251 t1255 true) else (if t1261 > 0 then (if 0 ≤ (wrap64 (t1252 - 1)) then (if (wrap64 (t1252 - 1)) < (t1255.length : Int) then (if (rd t1255 (wrap64 (t1252 - 1))) = t1261 then ((impl_PassOf.f k t1251 t1252).bind fun t1263 => (if t1263 < 1 then (laws_FnForms.j0 k t1251 t1255 true) else ((impl_FirstTime.f k t1251 t1261).bind fun t1264 => (laws_FnForms.j0 k t1251 t1255 (decide (t1264 > t1252)))))) else (laws_FnForms.j0 k t1251 t1255 true)) else (none)) else (none)) else (laws_FnForms.j0 k t1251 t1255 false))) else (if ((decide (t1261 > 0)) != false) = true then (laws_FnForms.j0 k t1251 t1255 true) else (if t1261 > 0 then (if 0 ≤ (wrap64 (t1252 - 1)) then (if (wrap64 (t1252 - 1)) < (t1255.length : Int) then (if (rd t1255 (wrap64 (t1252 - 1))) = t1261 then ((impl_PassOf.f k t1251 t1252).bind fun t1266 => (if t1266 < 1 then (laws_FnForms.j0 k t1251 t1255 true) else ((impl_FirstTime.f k t1251 t1261).bind fun t1267 => (laws_FnForms.j0 k t1251 t1255 (decide (t1267 > t1252)))))) else (laws_FnForms.j0 k t1251 t1255 true)) else (none)) else (none)) else (laws_FnForms.j0 k t1251 t1255 false))))) else (some false))) = some r := H
    have A5 := Aside0.mk A50
    clear A50
    replace H := Option.bind_eq_some_iff.mp H
    obtain ⟨t1258, A60, H⟩ := H
    replace H : (if (t1255.length : Int) = (t1258.length : Int) then ((impl_WrittenBar.f k t1251 t1252).bind fun t1261 => (if t1252 ≥ 1 then (if ((decide (t1261 > 0)) != (decide (t1252 ≤ (t1255.length : Int)))) = true then (laws_FnForms.j0 k t1251 t1255 true) else (if t1261 > 0 then (if 0 ≤ (wrap64 (t1252 - 1)) then (if (wrap64 (t1252 - 1)) < (t1255.length : Int) then (if (rd t1255 (wrap64 (t1252 - 1))) = t1261 then ((impl_PassOf.f k t1251 t1252).bind fun t1263 => (if t1263 < 1 then (laws_FnForms.j0 k t1251 t1255 true) else ((impl_FirstTime.f k t1251 t1261).bind fun t1264 => (laws_FnForms.j0 k t1251 t1255 (decide (t1264 > t1252)))))) else (laws_FnForms.j0 k t1251 t1255 true)) else (none)) else (none)) else (laws_FnForms.j0 k t1251 t1255 false))) else (if ((decide (t1261 > 0)) != false) = true then (laws_FnForms.j0 k t1251 t1255 true) else (if t1261 > 0 then (if 0 ≤ (wrap64 (t1252 - 1)) then (if (wrap64 (t1252 - 1)) < (t1255.length : Int) then (if (rd t1255 (wrap64 (t1252 - 1))) = t1261 then ((impl_PassOf.f k t1251 t1252).bind fun t1266 => (if t1266 < 1 then (laws_FnForms.j0 k t1251 t1255 true) else ((impl_FirstTime.f k t1251 t1261).bind fun t1267 => (laws_FnForms.j0 k t1251 t1255 (decide (t1267 > t1252)))))) else (laws_FnForms.j0 k t1251 t1255 true)) else (none)) else (none)) else (laws_FnForms.j0 k t1251 t1255 false))))) else (some false)) = some r := H
    have A6 := Aside0.mk A60
    clear A60
    by_cases c7 : (t1255.length : Int) = (t1258.length : Int)
    · rw [if_pos c7] at H
      have c7b0 : ((t1255.length : Int) == (t1258.length : Int)) = true := beq_iff_eq.mpr c7
      have c7b1 : ((t1255.length : Int) != (t1258.length : Int)) = false := bne_eq_false_iff_eq.mpr c7
      have c7b2 : (t1255.length == t1258.length) = true := by first | simpa using c7 | (simp at c7 ⊢; omega)
      clear c7
      replace H := Option.bind_eq_some_iff.mp H
      obtain ⟨t1261, A80, H⟩ := H
      replace H : (if t1252 ≥ 1 then (if ((decide (t1261 > 0)) != (decide (t1252 ≤ (t1255.length : Int)))) = true then (laws_FnForms.j0 k t1251 t1255 true) else (if t1261 > 0 then (if 0 ≤ (wrap64 (t1252 - 1)) then (if (wrap64 (t1252 - 1)) < (t1255.length : Int) then (if (rd t1255 (wrap64 (t1252 - 1))) = t1261 then ((impl_PassOf.f k t1251 t1252).bind fun t1263 => (if t1263 < 1 then (laws_FnForms.j0 k t1251 t1255 true) else ((impl_FirstTime.f k t1251 t1261).bind fun t1264 => (laws_FnForms.j0 k t1251 t1255 (decide (t1264 > t1252)))))) else (laws_FnForms.j0 k t1251 t1255 true)) else (none)) else (none)) else (laws_FnForms.j0 k t1251 t1255 false))) else (if ((decide (t1261 > 0)) != false) = true then (laws_FnForms.j0 k t1251 t1255 true) else (if t1261 > 0 then (if 0 ≤ (wrap64 (t1252 - 1)) then (if (wrap64 (t1252 - 1)) < (t1255.length : Int) then (if (rd t1255 (wrap64 (t1252 - 1))) = t1261 then ((impl_PassOf.f k t1251 t1252).bind fun t1266 => (if t1266 < 1 then (laws_FnForms.j0 k t1251 t1255 true) else ((impl_FirstTime.f k t1251 t1261).bind fun t1267 => (laws_FnForms.j0 k t1251 t1255 (decide (t1267 > t1252)))))) else (laws_FnForms.j0 k t1251 t1255 true)) else (none)) else (none)) else (laws_FnForms.j0 k t1251 t1255 false)))) = some r := H
      have A8 := Aside0.mk A80
      clear A80
      have HC9 := Aside0.mk H
      clear H
      go_enter Try.func13, Try.ntmps13
      go_upto_region 8 with (first | ((with_reducible refine gate_callee (f := 62) rfl ?_); refine goesL_ (some 11) rfl rfl Try.func62 (by kernel_rfl) rfl #[.slice A0 l0.length c0] rfl (by (try simp only [List.map_toArray, List.map_cons, List.map_nil]); first | done | rfl | (simp only [List.length_drop, List.length_take]; rfl)) ?_; (with_reducible refine (laws_big.calls _ _ l0 false _ ?side1 ?side2 A2.out).mono ?_); (case side1 => repeat (first | exact HR0.out | (with_reducible refine Kd.C_alloc ?_ _) | (with_reducible refine Kd.C_drewN ?_ _) | (with_reducible refine Kd.C_drew ?_))); (case side2 => exact HC0.out); rintro e w' ⟨rfl, ⟨nd, rfl⟩⟩; refine ⟨_, rfl, ?_⟩) | ((with_reducible refine gate_callee (f := 63) rfl ?_); refine goesL_ (some 14) rfl rfl Try.func63 (by kernel_rfl) rfl #[.slice A0 l0.length c0] rfl (by (try simp only [List.map_toArray, List.map_cons, List.map_nil]); first | done | rfl | (simp only [List.length_drop, List.length_take]; rfl)) ?_; (with_reducible refine (spec_DrawWrittenBar.calls k _ _ l0 t1251 t1252 _ ?side1 ?side2 A4.out).mono ?_); (case side1 => repeat (first | exact HR0.out | (with_reducible refine Kd.C_alloc ?_ _) | (with_reducible refine Kd.C_drewN ?_ _) | (with_reducible refine Kd.C_drew ?_))); (case side2 => exact HC0.out); rintro e w10 ⟨v1253, rfl, ho0, hb⟩; refine ⟨_, rfl, ?_⟩; have n0_ := Aside0.mk (Kd.R_lower ho0 (below_size (by repeat (first | (with_reducible first | exact HB.out | apply below_alloc | apply pw_below_drewN | apply below_drew1) | exact HB.out)))); have n1_ := Aside0.mk (below_step (by repeat (first | (with_reducible first | exact HB.out | apply below_alloc | apply pw_below_drewN | apply below_drew1) | exact HB.out)) hb); clear HB; have HO1254 := n0_; have HB := n1_; clear n0_ n1_; (try clear hb); (try clear hb2); (try clear hk); (try clear hi); (try clear ho0); obtain ⟨Ao11, co11, eo11⟩ := Kd.R_slice HO1254.out; subst eo11) | ((with_reducible refine gate_callee (f := 64) rfl ?_); refine goesL_ (some 18) rfl rfl Try.func64 (by kernel_rfl) rfl #[.slice Ao11 t1251.length co11] rfl (by (try simp only [List.map_toArray, List.map_cons, List.map_nil]); first | done | rfl | (simp only [List.length_drop, List.length_take]; rfl)) ?_; (with_reducible refine (impl_Unfold.calls k _ _ t1251 t1255 _ ?side1 ?side2 A5.out).mono ?_); (case side1 => repeat (first | exact (Kd.R_reads' HO1254.out).2.2 | (with_reducible refine Kd.C_alloc ?_ _) | (with_reducible refine Kd.C_drewN ?_ _) | (with_reducible refine Kd.C_drew ?_))); (case side2 => exact (Kd.R_reads' HO1254.out).2.1); rintro e w12 ⟨v1256, rfl, ho0, hb⟩; refine ⟨_, rfl, ?_⟩; have n0_ := Aside0.mk (Kd.R_below (by (with_reducible repeat (first | apply Kd.R_alloc | apply Kd.R_drewN | apply Kd.R_drew)); exact HO1254.out) hb); have n1_ := Aside0.mk (Kd.R_lower ho0 (below_size (by repeat (first | (with_reducible first | exact HB.out | apply below_alloc | apply pw_below_drewN | apply below_drew1) | exact HB.out)))); have n2_ := Aside0.mk (below_step (by repeat (first | (with_reducible first | exact HB.out | apply below_alloc | apply pw_below_drewN | apply below_drew1) | exact HB.out)) hb); clear HO1254; clear HB; have HO1254 := n0_; have HO1257 := n1_; have HB := n2_; clear n0_ n1_ n2_; (try clear hb); (try clear hb2); (try clear hk); (try clear hi); (try clear ho0); obtain ⟨Ao13, co13, eo13⟩ := Kd.R_slice HO1257.out; subst eo13) | ((with_reducible refine gate_callee (f := 65) rfl ?_); refine goesL_ (some 22) rfl rfl Try.func65 (by kernel_rfl) rfl #[.slice Ao11 t1251.length co11] rfl (by (try simp only [List.map_toArray, List.map_cons, List.map_nil]); first | done | rfl | (simp only [List.length_drop, List.length_take]; rfl)) ?_; (with_reducible refine (spec_Unfold.calls k _ _ t1251 t1258 _ ?side1 ?side2 A6.out).mono ?_); (case side1 => repeat (first | exact (Kd.R_reads' HO1254.out).2.2 | (with_reducible refine Kd.C_alloc ?_ _) | (with_reducible refine Kd.C_drewN ?_ _) | (with_reducible refine Kd.C_drew ?_))); (case side2 => exact (Kd.R_reads' HO1254.out).2.1); rintro e w14 ⟨v1259, rfl, ho0, hb⟩; refine ⟨_, rfl, ?_⟩; have n0_ := Aside0.mk (Kd.R_below (by (with_reducible repeat (first | apply Kd.R_alloc | apply Kd.R_drewN | apply Kd.R_drew)); exact HO1254.out) hb); have n1_ := Aside0.mk (Kd.R_elder' (by (with_reducible repeat (first | apply Kd.R_alloc | apply Kd.R_drewN | apply Kd.R_drew)); exact HO1257.out) (Kd.R_base ho0) hb); have n2_ := Aside0.mk (Kd.R_lower (Kd.R_new' ho0 (Kd.R_lt (by (with_reducible repeat (first | apply Kd.R_alloc | apply Kd.R_drewN | apply Kd.R_drew)); exact HO1257.out))) (below_size (by repeat (first | (with_reducible first | exact HB.out | apply below_alloc | apply pw_below_drewN | apply below_drew1) | exact HB.out)))); have n3_ := Aside0.mk (below_step (by repeat (first | (with_reducible first | exact HB.out | apply below_alloc | apply pw_below_drewN | apply below_drew1) | exact HB.out)) hb); clear HO1254; clear HO1257; clear HB; have HO1254 := n0_; have HO1257 := n1_; have HO1260 := n2_; have HB := n3_; clear n0_ n1_ n2_ n3_; (try clear hb); (try clear hb2); (try clear hk); (try clear hi); (try clear ho0); obtain ⟨Ao15, co15, eo15⟩ := Kd.R_slice HO1260.out; subst eo15) | ((with_reducible refine gate_callee (f := 66) rfl ?_); refine goesL_ (some 27) rfl rfl Try.func66 (by kernel_rfl) rfl #[.slice Ao11 t1251.length co11, .int .i64 t1252] rfl (by (try simp only [List.map_toArray, List.map_cons, List.map_nil]); first | done | rfl | (simp only [List.length_drop, List.length_take]; rfl)) ?_; (with_reducible refine (impl_WrittenBar.calls k _ _ t1251 t1252 t1261 _ ?side1 ?side2 A8.out).mono ?_); (case side1 => repeat (first | exact (Kd.R_reads' HO1254.out).2.2 | (with_reducible refine Kd.C_alloc ?_ _) | (with_reducible refine Kd.C_drewN ?_ _) | (with_reducible refine Kd.C_drew ?_))); (case side2 => exact (Kd.R_reads' HO1254.out).2.1); rintro e w16 ⟨rfl, hb⟩; refine ⟨_, rfl, ?_⟩; have n0_ := Aside0.mk (Kd.R_below (by (with_reducible repeat (first | apply Kd.R_alloc | apply Kd.R_drewN | apply Kd.R_drew)); exact HO1254.out) hb); have n1_ := Aside0.mk (Kd.R_below (by (with_reducible repeat (first | apply Kd.R_alloc | apply Kd.R_drewN | apply Kd.R_drew)); exact HO1257.out) hb); have n2_ := Aside0.mk (Kd.R_below (by (with_reducible repeat (first | apply Kd.R_alloc | apply Kd.R_drewN | apply Kd.R_drew)); exact HO1260.out) hb); have n3_ := Aside0.mk (below_step (by repeat (first | (with_reducible first | exact HB.out | apply below_alloc | apply pw_below_drewN | apply below_drew1) | exact HB.out)) hb); clear HO1254; clear HO1257; clear HO1260; clear HB; have HO1254 := n0_; have HO1257 := n1_; have HO1260 := n2_; have HB := n3_; clear n0_ n1_ n2_ n3_; (try clear hb); (try clear hb2); (try clear hk); (try clear hi)))
      (try simp only [Act.put, List.setIfInBounds_toArray, List.set_cons_zero, List.set_cons_succ])
      go_cut [64] (fun v64 wc => ∃ (kq : Nat) (x64_8 : Bool), v64 = .bool x64_8 ∧ Aside0 (laws_FnForms.j0 kq t1251 t1255 x64_8 = some r) ∧ Aside0 (kq ≤ k) ∧ Aside0 (Kd.R k154 154 wc w.heap.size (fun _ => True) (.slice Ao11 t1251.length co11) t1251) ∧ Aside0 (Kd.R (Kd.int .i64) 3 wc w.heap.size (fun _ => True) (.slice Ao13 t1255.length co13) t1255) ∧ Aside0 (Below w.heap.size w wc))
      case first =>
        have H := HC9.out
        clear HC9
        by_cases c17 : t1252 ≥ 1
        · rw [if_pos c17] at H
          have c17b0 : decide (1 ≤ t1252) = true := decide_eq_true c17
          clear c17
          (first | rw [c17b0] | (simp only [i64_w, i32_w]; rw [c17b0]) | skip)
          by_cases c18 : ((decide (t1261 > 0)) != (decide (t1252 ≤ (t1255.length : Int)))) = true
          · rw [if_pos c18] at H
            have c18b0 : ((decide (t1261 > 0)) != (decide (t1252 ≤ (t1255.length : Int)))) = true := c18
            (try (have c18b1 : decide ((decide (t1261 > 0)) = (decide (t1252 ≤ (t1255.length : Int)))) = false := by simpa using c18))
            (try (have c18b2 : ((decide (t1261 > 0)) == (decide (t1252 ≤ (t1255.length : Int)))) = false := by simpa using c18))
            (try (have c18b3 : ¬ ((decide (t1261 > 0)) = (decide (t1252 ≤ (t1255.length : Int)))) := by simpa using c18))
            clear c18
            have H' := Aside0.mk H
            clear H
            go_wp2
            go_meet
            case rel => exact ⟨_, (true), (by first | rfl | (simp; done) | (simp [*]; done)), H', ⟨by first | omega | exact Nat.le_refl _⟩, ⟨by (with_reducible repeat (first | apply Kd.R_alloc | apply Kd.R_drewN | apply Kd.R_drew)); exact HO1254.out⟩, ⟨by (with_reducible repeat (first | apply Kd.R_alloc | apply Kd.R_drewN | apply Kd.R_drew)); exact Kd.R_mono HO1257.out (fun _ hk => trivial)⟩, ⟨by repeat (first | (with_reducible first | exact HB.out | apply below_alloc | apply pw_below_drewN | apply below_drew1) | exact HB.out)⟩⟩
          · rw [if_neg c18] at H
            have c18b0 : ((decide (t1261 > 0)) != (decide (t1252 ≤ (t1255.length : Int)))) = false := by simpa using c18
            (try (have c18b1 : decide ((decide (t1261 > 0)) = (decide (t1252 ≤ (t1255.length : Int)))) = true := by simpa using c18))
            (try (have c18b2 : ((decide (t1261 > 0)) == (decide (t1252 ≤ (t1255.length : Int)))) = true := by simpa using c18))
            clear c18
            by_cases c19 : t1261 > 0
            · rw [if_pos c19] at H
              have c19b0 : decide (0 < t1261) = true := decide_eq_true c19
              have c18c : (decide (t1252 ≤ (t1255.length : Int))) = true := by have h := c18b0; rw [show decide (t1261 > 0) = decide (0 < t1261) from rfl, c19b0] at h; simpa using h
              clear c19
              obtain ⟨ji20, hji20⟩ : ∃ j_ : Int, (wrap64 (t1252 - 1)) = j_ := ⟨_, rfl⟩
              replace H : (if 0 ≤ (ji20) then (if (ji20) < (t1255.length : Int) then (if (rd t1255 (ji20)) = t1261 then ((impl_PassOf.f k t1251 t1252).bind fun t1263 => (if t1263 < 1 then (laws_FnForms.j0 k t1251 t1255 true) else ((impl_FirstTime.f k t1251 t1261).bind fun t1264 => (laws_FnForms.j0 k t1251 t1255 (decide (t1264 > t1252)))))) else (laws_FnForms.j0 k t1251 t1255 true)) else (none)) else (none)) = some r := by first | (rw [hji20] at H; exact H) | (simp only [hji20] at H ⊢; exact H)
              have hji20w : (IntKind.i64.wrap (t1252 - 1)) = ji20 := (i64_w _).trans hji20
              by_cases c21 : 0 ≤ (ji20)
              · rw [if_pos c21] at H
                have c21b0 : decide (0 ≤ (ji20)) = true := decide_eq_true c21
                clear c21
                by_cases c22 : (ji20) < (t1255.length : Int)
                · rw [if_pos c22] at H
                  have c22b0 : decide ((ji20) < (t1255.length : Int)) = true := decide_eq_true c22
                  clear c22
                  by_cases c23 : (rd t1255 (ji20)) = t1261
                  · rw [if_pos c23] at H
                    have c23b0 : ((rd t1255 (ji20)) == t1261) = true := beq_iff_eq.mpr c23
                    have c23b1 : ((rd t1255 (ji20)) != t1261) = false := bne_eq_false_iff_eq.mpr c23
                    clear c23
                    replace H := Option.bind_eq_some_iff.mp H
                    obtain ⟨t1263, A240, H⟩ := H
                    replace H : (if t1263 < 1 then (laws_FnForms.j0 k t1251 t1255 true) else ((impl_FirstTime.f k t1251 t1261).bind fun t1264 => (laws_FnForms.j0 k t1251 t1255 (decide (t1264 > t1252))))) = some r := H
                    have A24 := Aside0.mk A240
                    clear A240
                    by_cases c25 : t1263 < 1
                    · rw [if_pos c25] at H
                      have c25b0 : decide (t1263 < 1) = true := decide_eq_true c25
                      clear c25
                      have H' := Aside0.mk H
                      clear H
                      have p1262 : 0 ≤ ((ji20) : Int) := of_decide_eq_true (by first | (with_reducible assumption) | assumption)
                      have q1262 : (ji20) < (t1255.length : Int) := of_decide_eq_true (by first | (with_reducible assumption) | assumption)
                      obtain ⟨ad1262, e1262, hx1262_0⟩ := Kd.at_int (Kd.R_reads' HO1257.out).2.2 (ji20) p1262 q1262
                      cases e1262
                      replace p1262 := eq_true p1262
                      replace q1262 := eq_true q1262
                      go_wp2_with (first | (go_at_call 67; (with_reducible refine (impl_PassOf.calls k _ _ t1251 t1252 t1263 _ ?side1 ?side2 A24.out).mono ?_); (case side1 => repeat (first | exact (Kd.R_reads' HO1254.out).2.2 | (with_reducible refine Kd.C_alloc ?_ _) | (with_reducible refine Kd.C_drewN ?_ _) | (with_reducible refine Kd.C_drew ?_))); (case side2 => exact (Kd.R_reads' HO1254.out).2.1); rintro e w26 ⟨rfl, hb⟩; have n0_ := Aside0.mk (Kd.R_below (by (with_reducible repeat (first | apply Kd.R_alloc | apply Kd.R_drewN | apply Kd.R_drew)); exact HO1254.out) hb); have n1_ := Aside0.mk (Kd.R_below (by (with_reducible repeat (first | apply Kd.R_alloc | apply Kd.R_drewN | apply Kd.R_drew)); exact HO1257.out) hb); have n2_ := Aside0.mk (Kd.R_below (by (with_reducible repeat (first | apply Kd.R_alloc | apply Kd.R_drewN | apply Kd.R_drew)); exact HO1260.out) hb); have n3_ := Aside0.mk (below_step (by repeat (first | (with_reducible first | exact HB.out | apply below_alloc | apply pw_below_drewN | apply below_drew1) | exact HB.out)) hb); clear HO1254; clear HO1257; clear HO1260; clear HB; have HO1254 := n0_; have HO1257 := n1_; have HO1260 := n2_; have HB := n3_; clear n0_ n1_ n2_ n3_; (try clear hb); (try clear hb2); (try clear hk); (try clear hi)))
                      go_meet
                      case rel => exact ⟨_, (true), (by first | rfl | (simp; done) | (simp [*]; done)), H', ⟨by first | omega | exact Nat.le_refl _⟩, ⟨by (with_reducible repeat (first | apply Kd.R_alloc | apply Kd.R_drewN | apply Kd.R_drew)); exact HO1254.out⟩, ⟨by (with_reducible repeat (first | apply Kd.R_alloc | apply Kd.R_drewN | apply Kd.R_drew)); exact Kd.R_mono HO1257.out (fun _ hk => trivial)⟩, ⟨by repeat (first | (with_reducible first | exact HB.out | apply below_alloc | apply pw_below_drewN | apply below_drew1) | exact HB.out)⟩⟩
                    · rw [if_neg c25] at H
                      have c25b0 : decide (t1263 < 1) = false := decide_eq_false c25
                      clear c25
                      replace H := Option.bind_eq_some_iff.mp H
                      obtain ⟨t1264, A270, H⟩ := H
                      replace H : (laws_FnForms.j0 k t1251 t1255 (decide (t1264 > t1252))) = some r := H
                      have A27 := Aside0.mk A270
                      clear A270
                      have H' := Aside0.mk H
                      clear H
                      have p1262 : 0 ≤ ((ji20) : Int) := of_decide_eq_true (by first | (with_reducible assumption) | assumption)
                      have q1262 : (ji20) < (t1255.length : Int) := of_decide_eq_true (by first | (with_reducible assumption) | assumption)
                      obtain ⟨ad1262, e1262, hx1262_0⟩ := Kd.at_int (Kd.R_reads' HO1257.out).2.2 (ji20) p1262 q1262
                      cases e1262
                      replace p1262 := eq_true p1262
                      replace q1262 := eq_true q1262
                      go_wp2_with (first | (go_at_call 67; (with_reducible refine (impl_PassOf.calls k _ _ t1251 t1252 t1263 _ ?side1 ?side2 A24.out).mono ?_); (case side1 => repeat (first | exact (Kd.R_reads' HO1254.out).2.2 | (with_reducible refine Kd.C_alloc ?_ _) | (with_reducible refine Kd.C_drewN ?_ _) | (with_reducible refine Kd.C_drew ?_))); (case side2 => exact (Kd.R_reads' HO1254.out).2.1); rintro e w28 ⟨rfl, hb⟩; have n0_ := Aside0.mk (Kd.R_below (by (with_reducible repeat (first | apply Kd.R_alloc | apply Kd.R_drewN | apply Kd.R_drew)); exact HO1254.out) hb); have n1_ := Aside0.mk (Kd.R_below (by (with_reducible repeat (first | apply Kd.R_alloc | apply Kd.R_drewN | apply Kd.R_drew)); exact HO1257.out) hb); have n2_ := Aside0.mk (Kd.R_below (by (with_reducible repeat (first | apply Kd.R_alloc | apply Kd.R_drewN | apply Kd.R_drew)); exact HO1260.out) hb); have n3_ := Aside0.mk (below_step (by repeat (first | (with_reducible first | exact HB.out | apply below_alloc | apply pw_below_drewN | apply below_drew1) | exact HB.out)) hb); clear HO1254; clear HO1257; clear HO1260; clear HB; have HO1254 := n0_; have HO1257 := n1_; have HO1260 := n2_; have HB := n3_; clear n0_ n1_ n2_ n3_; (try clear hb); (try clear hb2); (try clear hk); (try clear hi)) | (go_at_call 68; (with_reducible refine (impl_FirstTime.calls k _ _ t1251 t1261 t1264 _ ?side1 ?side2 A27.out).mono ?_); (case side1 => repeat (first | exact (Kd.R_reads' HO1254.out).2.2 | (with_reducible refine Kd.C_alloc ?_ _) | (with_reducible refine Kd.C_drewN ?_ _) | (with_reducible refine Kd.C_drew ?_))); (case side2 => exact (Kd.R_reads' HO1254.out).2.1); rintro e w29 ⟨rfl, hb⟩; have n0_ := Aside0.mk (Kd.R_below (by (with_reducible repeat (first | apply Kd.R_alloc | apply Kd.R_drewN | apply Kd.R_drew)); exact HO1254.out) hb); have n1_ := Aside0.mk (Kd.R_below (by (with_reducible repeat (first | apply Kd.R_alloc | apply Kd.R_drewN | apply Kd.R_drew)); exact HO1257.out) hb); have n2_ := Aside0.mk (Kd.R_below (by (with_reducible repeat (first | apply Kd.R_alloc | apply Kd.R_drewN | apply Kd.R_drew)); exact HO1260.out) hb); have n3_ := Aside0.mk (below_step (by repeat (first | (with_reducible first | exact HB.out | apply below_alloc | apply pw_below_drewN | apply below_drew1) | exact HB.out)) hb); clear HO1254; clear HO1257; clear HO1260; clear HB; have HO1254 := n0_; have HO1257 := n1_; have HO1260 := n2_; have HB := n3_; clear n0_ n1_ n2_ n3_; (try clear hb); (try clear hb2); (try clear hk); (try clear hi)))
                      go_meet
                      case rel => exact ⟨_, (decide (t1264 > t1252)), (by first | rfl | (simp; done) | (simp [*]; done)), H', ⟨by first | omega | exact Nat.le_refl _⟩, ⟨by (with_reducible repeat (first | apply Kd.R_alloc | apply Kd.R_drewN | apply Kd.R_drew)); exact HO1254.out⟩, ⟨by (with_reducible repeat (first | apply Kd.R_alloc | apply Kd.R_drewN | apply Kd.R_drew)); exact Kd.R_mono HO1257.out (fun _ hk => trivial)⟩, ⟨by repeat (first | (with_reducible first | exact HB.out | apply below_alloc | apply pw_below_drewN | apply below_drew1) | exact HB.out)⟩⟩
                  · rw [if_neg c23] at H
                    have c23b0 : ((rd t1255 (ji20)) == t1261) = false := beq_eq_false_iff_ne.mpr c23
                    have c23b1 : ((rd t1255 (ji20)) != t1261) = true := bne_iff_ne.mpr c23
                    have H' := Aside0.mk H
                    clear H
                    have p1262 : 0 ≤ ((ji20) : Int) := of_decide_eq_true (by first | (with_reducible assumption) | assumption)
                    have q1262 : (ji20) < (t1255.length : Int) := of_decide_eq_true (by first | (with_reducible assumption) | assumption)
                    obtain ⟨ad1262, e1262, hx1262_0⟩ := Kd.at_int (Kd.R_reads' HO1257.out).2.2 (ji20) p1262 q1262
                    cases e1262
                    replace p1262 := eq_true p1262
                    replace q1262 := eq_true q1262
                    go_wp2
                    go_meet
                    case rel => exact ⟨_, (true), (by first | rfl | (simp; done) | (simp [*]; done)), H', ⟨by first | omega | exact Nat.le_refl _⟩, ⟨by (with_reducible repeat (first | apply Kd.R_alloc | apply Kd.R_drewN | apply Kd.R_drew)); exact HO1254.out⟩, ⟨by (with_reducible repeat (first | apply Kd.R_alloc | apply Kd.R_drewN | apply Kd.R_drew)); exact Kd.R_mono HO1257.out (fun _ hk => trivial)⟩, ⟨by repeat (first | (with_reducible first | exact HB.out | apply below_alloc | apply pw_below_drewN | apply below_drew1) | exact HB.out)⟩⟩
                · rw [if_neg c22] at H
                  exact absurd H (by simp)
              · rw [if_neg c21] at H
                exact absurd H (by simp)
            · rw [if_neg c19] at H
              have c19b0 : decide (0 < t1261) = false := decide_eq_false c19
              have c18c : (decide (t1252 ≤ (t1255.length : Int))) = false := by have h := c18b0; rw [show decide (t1261 > 0) = decide (0 < t1261) from rfl, c19b0] at h; simpa using h
              clear c19
              have H' := Aside0.mk H
              clear H
              go_wp2
              go_meet
              case rel => exact ⟨_, (false), (by first | rfl | (simp; done) | (simp [*]; done)), H', ⟨by first | omega | exact Nat.le_refl _⟩, ⟨by (with_reducible repeat (first | apply Kd.R_alloc | apply Kd.R_drewN | apply Kd.R_drew)); exact HO1254.out⟩, ⟨by (with_reducible repeat (first | apply Kd.R_alloc | apply Kd.R_drewN | apply Kd.R_drew)); exact Kd.R_mono HO1257.out (fun _ hk => trivial)⟩, ⟨by repeat (first | (with_reducible first | exact HB.out | apply below_alloc | apply pw_below_drewN | apply below_drew1) | exact HB.out)⟩⟩
        · rw [if_neg c17] at H
          have c17b0 : decide (1 ≤ t1252) = false := decide_eq_false c17
          clear c17
          (first | rw [c17b0] | (simp only [i64_w, i32_w]; rw [c17b0]) | skip)
          by_cases c30 : ((decide (t1261 > 0)) != false) = true
          · rw [if_pos c30] at H
            have c30b0 : ((decide (t1261 > 0)) != false) = true := c30
            (try (have c30b1 : decide ((decide (t1261 > 0)) = false) = false := by simpa using c30))
            (try (have c30b2 : ((decide (t1261 > 0)) == false) = false := by simpa using c30))
            (try (have c30b3 : ¬ ((decide (t1261 > 0)) = false) := by simpa using c30))
            clear c30
            have H' := Aside0.mk H
            clear H
            go_wp2
            go_meet
            case rel => exact ⟨_, (true), (by first | rfl | (simp; done) | (simp [*]; done)), H', ⟨by first | omega | exact Nat.le_refl _⟩, ⟨by (with_reducible repeat (first | apply Kd.R_alloc | apply Kd.R_drewN | apply Kd.R_drew)); exact HO1254.out⟩, ⟨by (with_reducible repeat (first | apply Kd.R_alloc | apply Kd.R_drewN | apply Kd.R_drew)); exact Kd.R_mono HO1257.out (fun _ hk => trivial)⟩, ⟨by repeat (first | (with_reducible first | exact HB.out | apply below_alloc | apply pw_below_drewN | apply below_drew1) | exact HB.out)⟩⟩
          · rw [if_neg c30] at H
            have c30b0 : ((decide (t1261 > 0)) != false) = false := by simpa using c30
            (try (have c30b1 : decide ((decide (t1261 > 0)) = false) = true := by simpa using c30))
            (try (have c30b2 : ((decide (t1261 > 0)) == false) = true := by simpa using c30))
            clear c30
            by_cases c31 : t1261 > 0
            · rw [if_pos c31] at H
              have c31b0 : decide (0 < t1261) = true := decide_eq_true c31
              exact absurd c30b0 (by rw [show decide (t1261 > 0) = decide (0 < t1261) from rfl, c31b0]; decide)
            · rw [if_neg c31] at H
              have c31b0 : decide (0 < t1261) = false := decide_eq_false c31
              clear c31
              have H' := Aside0.mk H
              clear H
              go_wp2
              go_meet
              case rel => exact ⟨_, (false), (by first | rfl | (simp; done) | (simp [*]; done)), H', ⟨by first | omega | exact Nat.le_refl _⟩, ⟨by (with_reducible repeat (first | apply Kd.R_alloc | apply Kd.R_drewN | apply Kd.R_drew)); exact HO1254.out⟩, ⟨by (with_reducible repeat (first | apply Kd.R_alloc | apply Kd.R_drewN | apply Kd.R_drew)); exact Kd.R_mono HO1257.out (fun _ hk => trivial)⟩, ⟨by repeat (first | (with_reducible first | exact HB.out | apply below_alloc | apply pw_below_drewN | apply below_drew1) | exact HB.out)⟩⟩
      case rest =>
        clear HC9
        try clear c1
        try clear p1
        try clear q1
        try clear hx1
        try clear c2
        try clear p2
        try clear c3
        try clear c6
        try clear p6
        try clear c7
        try clear c7b0
        try clear c7b1
        try clear c7b2
        try clear p12
        try clear q12
        try clear hx12
        try clear c13
        try clear c17
        try clear c17b0
        try clear c18
        try clear c18b0
        try clear c18b1
        try clear c18b2
        try clear c19
        try clear c19b0
        try clear c21
        try clear c21b0
        try clear c22
        try clear c22b0
        try clear c23
        try clear c23b0
        try clear c23b1
        try clear c25
        try clear c25b0
        try clear c30
        try clear c30b0
        try clear c30b1
        try clear c30b2
        try clear c31
        try clear c31b0
        try clear c33
        try clear c33b0
        try clear c34
        try clear c34b0
        try clear c35
        try clear c35b0
        try clear c35b1
        try clear c37
        try clear c37b0
        try clear hx1262_0
        try clear hx1265_0
        try clear p1262
        try clear p1265
        try clear q1262
        try clear q1265
        obtain ⟨kq, x64_8, rfl, HA, HJ8, HO_3, HO_5, HB⟩ := hcut
        cases kq with
        | zero => exact absurd HA.out (by simp [laws_FnForms.j0])
        | succ kj8 =>
          have H := HA.out
          clear HA
          simp only [laws_FnForms.j0] at H
          by_cases c42 : x64_8 = true
          · subst c42
            have H1 : (some false) = some r := by rw [if_pos rfl] at H; exact H
            clear H
            have H := H1
            clear H1
            obtain rfl := Option.some.inj H
            go_wp2
            go_ret
            exact ⟨by first | rfl | (simp [errW_none, errW_some] <;> rfl) | (simp [*, errW_none, errW_some] <;> rfl), by repeat (first | (with_reducible first | exact HB.out | apply below_alloc | apply pw_below_drewN | apply below_drew1) | exact HB.out)⟩
          · replace c42 := Bool.eq_false_iff.mpr c42
            subst c42
            have H1 : (laws_FnForms.l0 kj8 t1251 t1255 0 1) = some r := by rw [if_neg (show ¬ (false = true) by decide)] at H; exact H
            clear H
            have H := H1
            clear H1
            have H' := Aside0.mk H
            clear H
            go_wp2
            go_loopg [7, 8] kj8 (fun kq v7 v8 w' => ∃ (x7_2 : Int) (x8_2 : Int), v7 = .int .i64 x7_2 ∧ v8 = .int .i64 x8_2 ∧ Aside0 (laws_FnForms.l0 kq t1251 t1255 x7_2 x8_2 = some r) ∧ Aside0 (kq ≤ kj8) ∧ Aside0 (Kd.R k154 154 w' w.heap.size (fun _ => True) (.slice Ao11 t1251.length co11) t1251) ∧ Aside0 (Kd.R (Kd.int .i64) 3 w' w.heap.size (fun _ => True) (.slice Ao13 t1255.length co13) t1255) ∧ Aside0 (Below w.heap.size w w'))
            case atStart => exact ⟨(0), (1), (by first | rfl | (simp; done) | (simp [*]; done)), (by first | rfl | (simp; done) | (simp [*]; done)), H', ⟨Nat.le_refl _⟩, ⟨by (with_reducible repeat (first | apply Kd.R_alloc | apply Kd.R_drewN | apply Kd.R_drew)); exact HO_3.out⟩, ⟨by (with_reducible repeat (first | apply Kd.R_alloc | apply Kd.R_drewN | apply Kd.R_drew)); exact HO_5.out⟩, ⟨by repeat (first | (with_reducible first | exact HB.out | apply below_alloc | apply pw_below_drewN | apply below_drew1) | exact HB.out)⟩⟩
            case round =>
              clear H'
              try clear c1
              try clear p1
              try clear q1
              try clear hx1
              try clear c2
              try clear p2
              try clear c3
              try clear c4
              try clear c6
              try clear p6
              try clear c7
              try clear c7b0
              try clear c7b1
              try clear c7b2
              try clear p12
              try clear q12
              try clear hx12
              try clear c13
              try clear c17
              try clear c17b0
              try clear c18
              try clear c18b0
              try clear c18b1
              try clear c18b2
              try clear c19
              try clear c19b0
              try clear c21
              try clear c21b0
              try clear c22
              try clear c22b0
              try clear c23
              try clear c23b0
              try clear c23b1
              try clear c25
              try clear c25b0
              try clear c30
              try clear c30b0
              try clear c30b1
              try clear c30b2
              try clear c31
              try clear c31b0
              try clear c33
              try clear c33b0
              try clear c34
              try clear c34b0
              try clear c35
              try clear c35b0
              try clear c35b1
              try clear c37
              try clear c37b0
              try clear c42
              try clear hx1262_0
              try clear hx1265_0
              try clear p1
              try clear p12
              try clear p1262
              try clear p1265
              try clear p2
              try clear p6
              try clear q1
              try clear q12
              try clear q1262
              try clear q1265
              obtain ⟨x7_2, x8_2, rfl, rfl, HA, HK2, HO_3, HO_5, HB⟩ := hrel
              cases gk with
              | zero => exact absurd HA.out (by simp [laws_FnForms.l0])
              | succ k2 =>
                have H := HA.out
                clear HA
                simp only [laws_FnForms.l0] at H
                by_cases c43 : x8_2 ≤ 100
                · rw [if_pos c43] at H
                  have c43b0 : decide (x8_2 ≤ 100) = true := decide_eq_true c43
                  clear c43
                  replace H := Option.bind_eq_some_iff.mp H
                  obtain ⟨t1269, A440, H⟩ := H
                  replace H : ((impl_FirstTime.f k2 t1251 x8_2).bind fun t1270 => (if ((decide (t1269 > 0)) != (decide (t1270 > 0))) = true then (some false) else (laws_FnForms.l0 k2 t1251 t1255 (wrap64 (x7_2 + t1269)) (wrap64 (x8_2 + 1))))) = some r := H
                  have A44 := Aside0.mk A440
                  clear A440
                  replace H := Option.bind_eq_some_iff.mp H
                  obtain ⟨t1270, A450, H⟩ := H
                  replace H : (if ((decide (t1269 > 0)) != (decide (t1270 > 0))) = true then (some false) else (laws_FnForms.l0 k2 t1251 t1255 (wrap64 (x7_2 + t1269)) (wrap64 (x8_2 + 1)))) = some r := H
                  have A45 := Aside0.mk A450
                  clear A450
                  by_cases c46 : ((decide (t1269 > 0)) != (decide (t1270 > 0))) = true
                  · rw [if_pos c46] at H
                    have c46b0 : ((decide (t1269 > 0)) != (decide (t1270 > 0))) = true := c46
                    (try (have c46b1 : decide ((decide (t1269 > 0)) = (decide (t1270 > 0))) = false := by simpa using c46))
                    (try (have c46b2 : ((decide (t1269 > 0)) == (decide (t1270 > 0))) = false := by simpa using c46))
                    (try (have c46b3 : ¬ ((decide (t1269 > 0)) = (decide (t1270 > 0))) := by simpa using c46))
                    clear c46
                    obtain rfl := Option.some.inj H
                    go_wp2_with (first | ((with_reducible refine gate_callee (f := 69) rfl ?_); refine goesL_ (some 71) rfl rfl Try.func69 (by kernel_rfl) rfl #[.slice Ao11 t1251.length co11, .int .i64 x8_2] rfl (by (try simp only [List.map_toArray, List.map_cons, List.map_nil]); first | done | rfl | (simp only [List.length_drop, List.length_take]; rfl)) ?_; (with_reducible refine (impl_CountTimes.calls k2 _ _ t1251 x8_2 t1269 _ ?side1 ?side2 A44.out).mono ?_); (case side1 => repeat (first | exact (Kd.R_reads' HO_3.out).2.2 | (with_reducible refine Kd.C_alloc ?_ _) | (with_reducible refine Kd.C_drewN ?_ _) | (with_reducible refine Kd.C_drew ?_))); (case side2 => exact (Kd.R_reads' HO_3.out).2.1); rintro e w47 ⟨rfl, hb⟩; refine ⟨_, rfl, ?_⟩; have n0_ := Aside0.mk (Kd.R_below (by (with_reducible repeat (first | apply Kd.R_alloc | apply Kd.R_drewN | apply Kd.R_drew)); exact HO_3.out) hb); have n1_ := Aside0.mk (Kd.R_below (by (with_reducible repeat (first | apply Kd.R_alloc | apply Kd.R_drewN | apply Kd.R_drew)); exact HO_5.out) hb); have n2_ := Aside0.mk (below_step (by repeat (first | (with_reducible first | exact HB.out | apply below_alloc | apply pw_below_drewN | apply below_drew1) | exact HB.out)) hb); clear HO_3; clear HO_5; clear HB; have HO_3 := n0_; have HO_5 := n1_; have HB := n2_; clear n0_ n1_ n2_; (try clear hb); (try clear hb2); (try clear hk); (try clear hi)) | ((with_reducible refine gate_callee (f := 68) rfl ?_); refine goesL_ (some 76) rfl rfl Try.func68 (by kernel_rfl) rfl #[.slice Ao11 t1251.length co11, .int .i64 x8_2] rfl (by (try simp only [List.map_toArray, List.map_cons, List.map_nil]); first | done | rfl | (simp only [List.length_drop, List.length_take]; rfl)) ?_; (with_reducible refine (impl_FirstTime.calls k2 _ _ t1251 x8_2 t1270 _ ?side1 ?side2 A45.out).mono ?_); (case side1 => repeat (first | exact (Kd.R_reads' HO_3.out).2.2 | (with_reducible refine Kd.C_alloc ?_ _) | (with_reducible refine Kd.C_drewN ?_ _) | (with_reducible refine Kd.C_drew ?_))); (case side2 => exact (Kd.R_reads' HO_3.out).2.1); rintro e w48 ⟨rfl, hb⟩; refine ⟨_, rfl, ?_⟩; have n0_ := Aside0.mk (Kd.R_below (by (with_reducible repeat (first | apply Kd.R_alloc | apply Kd.R_drewN | apply Kd.R_drew)); exact HO_3.out) hb); have n1_ := Aside0.mk (Kd.R_below (by (with_reducible repeat (first | apply Kd.R_alloc | apply Kd.R_drewN | apply Kd.R_drew)); exact HO_5.out) hb); have n2_ := Aside0.mk (below_step (by repeat (first | (with_reducible first | exact HB.out | apply below_alloc | apply pw_below_drewN | apply below_drew1) | exact HB.out)) hb); clear HO_3; clear HO_5; clear HB; have HO_3 := n0_; have HO_5 := n1_; have HB := n2_; clear n0_ n1_ n2_; (try clear hb); (try clear hb2); (try clear hk); (try clear hi)))
                    go_ret
                    exact ⟨by first | rfl | (simp [errW_none, errW_some] <;> rfl) | (simp [*, errW_none, errW_some] <;> rfl), by repeat (first | (with_reducible first | exact HB.out | apply below_alloc | apply pw_below_drewN | apply below_drew1) | exact HB.out)⟩
                  · rw [if_neg c46] at H
                    have c46b0 : ((decide (t1269 > 0)) != (decide (t1270 > 0))) = false := by simpa using c46
                    (try (have c46b1 : decide ((decide (t1269 > 0)) = (decide (t1270 > 0))) = true := by simpa using c46))
                    (try (have c46b2 : ((decide (t1269 > 0)) == (decide (t1270 > 0))) = true := by simpa using c46))
                    clear c46
                    have H' := Aside0.mk H
                    clear H
                    go_wp2_with (first | ((with_reducible refine gate_callee (f := 69) rfl ?_); refine goesL_ (some 71) rfl rfl Try.func69 (by kernel_rfl) rfl #[.slice Ao11 t1251.length co11, .int .i64 x8_2] rfl (by (try simp only [List.map_toArray, List.map_cons, List.map_nil]); first | done | rfl | (simp only [List.length_drop, List.length_take]; rfl)) ?_; (with_reducible refine (impl_CountTimes.calls k2 _ _ t1251 x8_2 t1269 _ ?side1 ?side2 A44.out).mono ?_); (case side1 => repeat (first | exact (Kd.R_reads' HO_3.out).2.2 | (with_reducible refine Kd.C_alloc ?_ _) | (with_reducible refine Kd.C_drewN ?_ _) | (with_reducible refine Kd.C_drew ?_))); (case side2 => exact (Kd.R_reads' HO_3.out).2.1); rintro e w49 ⟨rfl, hb⟩; refine ⟨_, rfl, ?_⟩; have n0_ := Aside0.mk (Kd.R_below (by (with_reducible repeat (first | apply Kd.R_alloc | apply Kd.R_drewN | apply Kd.R_drew)); exact HO_3.out) hb); have n1_ := Aside0.mk (Kd.R_below (by (with_reducible repeat (first | apply Kd.R_alloc | apply Kd.R_drewN | apply Kd.R_drew)); exact HO_5.out) hb); have n2_ := Aside0.mk (below_step (by repeat (first | (with_reducible first | exact HB.out | apply below_alloc | apply pw_below_drewN | apply below_drew1) | exact HB.out)) hb); clear HO_3; clear HO_5; clear HB; have HO_3 := n0_; have HO_5 := n1_; have HB := n2_; clear n0_ n1_ n2_; (try clear hb); (try clear hb2); (try clear hk); (try clear hi)) | ((with_reducible refine gate_callee (f := 68) rfl ?_); refine goesL_ (some 76) rfl rfl Try.func68 (by kernel_rfl) rfl #[.slice Ao11 t1251.length co11, .int .i64 x8_2] rfl (by (try simp only [List.map_toArray, List.map_cons, List.map_nil]); first | done | rfl | (simp only [List.length_drop, List.length_take]; rfl)) ?_; (with_reducible refine (impl_FirstTime.calls k2 _ _ t1251 x8_2 t1270 _ ?side1 ?side2 A45.out).mono ?_); (case side1 => repeat (first | exact (Kd.R_reads' HO_3.out).2.2 | (with_reducible refine Kd.C_alloc ?_ _) | (with_reducible refine Kd.C_drewN ?_ _) | (with_reducible refine Kd.C_drew ?_))); (case side2 => exact (Kd.R_reads' HO_3.out).2.1); rintro e w50 ⟨rfl, hb⟩; refine ⟨_, rfl, ?_⟩; have n0_ := Aside0.mk (Kd.R_below (by (with_reducible repeat (first | apply Kd.R_alloc | apply Kd.R_drewN | apply Kd.R_drew)); exact HO_3.out) hb); have n1_ := Aside0.mk (Kd.R_below (by (with_reducible repeat (first | apply Kd.R_alloc | apply Kd.R_drewN | apply Kd.R_drew)); exact HO_5.out) hb); have n2_ := Aside0.mk (below_step (by repeat (first | (with_reducible first | exact HB.out | apply below_alloc | apply pw_below_drewN | apply below_drew1) | exact HB.out)) hb); clear HO_3; clear HO_5; clear HB; have HO_3 := n0_; have HO_5 := n1_; have HB := n2_; clear n0_ n1_ n2_; (try clear hb); (try clear hb2); (try clear hk); (try clear hi)))
                    go_roundg k2
                    case measure => have := HJ8.out; have := HK2.out; omega
                    case rel => exact ⟨(wrap64 (x7_2 + t1269)), (wrap64 (x8_2 + 1)), (by first | rfl | (simp; done) | (simp [*]; done)), (by first | rfl | (simp; done) | (simp [*]; done)), H', ⟨by have := HJ8.out; have := HK2.out; omega⟩, ⟨by (with_reducible repeat (first | apply Kd.R_alloc | apply Kd.R_drewN | apply Kd.R_drew)); exact HO_3.out⟩, ⟨by (with_reducible repeat (first | apply Kd.R_alloc | apply Kd.R_drewN | apply Kd.R_drew)); exact HO_5.out⟩, ⟨by repeat (first | (with_reducible first | exact HB.out | apply below_alloc | apply pw_below_drewN | apply below_drew1) | exact HB.out)⟩⟩
                · rw [if_neg c43] at H
                  have c43b0 : decide (x8_2 ≤ 100) = false := decide_eq_false c43
                  clear c43
                  by_cases c51 : x7_2 = (t1255.length : Int)
                  · rw [if_pos c51] at H
                    have c51b0 : (x7_2 == (t1255.length : Int)) = true := beq_iff_eq.mpr c51
                    have c51b1 : (x7_2 != (t1255.length : Int)) = false := bne_eq_false_iff_eq.mpr c51
                    clear c51
                    by_cases c52 : (t1255.length : Int) ≤ 200
                    · rw [if_pos c52] at H
                      have c52b0 : decide ((t1255.length : Int) ≤ 200) = true := decide_eq_true c52
                      have c52b1 : decide (t1255.length ≤ 200) = true := decide_eq_true (by omega)
                      clear c52
                      replace H := Option.bind_eq_some_iff.mp H
                      obtain ⟨t1268, A530, H⟩ := H
                      replace H : (if t1268 = true then (some true) else (some ((t1255.length : Int) == 0))) = some r := H
                      have A53 := Aside0.mk A530
                      clear A530
                      by_cases c54 : t1268 = true
                      · subst c54
                        have H1 : (some true) = some r := by rw [if_pos rfl] at H; exact H
                        clear H
                        have H := H1
                        clear H1
                        obtain rfl := Option.some.inj H
                        go_wp2_with (first | (go_at_call 70; (with_reducible refine (impl_IsForm.calls k2 _ _ t1251 true _ ?side1 ?side2 A53.out).mono ?_); (case side1 => repeat (first | exact (Kd.R_reads' HO_3.out).2.2 | (with_reducible refine Kd.C_alloc ?_ _) | (with_reducible refine Kd.C_drewN ?_ _) | (with_reducible refine Kd.C_drew ?_))); (case side2 => exact (Kd.R_reads' HO_3.out).2.1); rintro e w55 ⟨rfl, hb⟩; have n0_ := Aside0.mk (Kd.R_below (by (with_reducible repeat (first | apply Kd.R_alloc | apply Kd.R_drewN | apply Kd.R_drew)); exact HO_3.out) hb); have n1_ := Aside0.mk (Kd.R_below (by (with_reducible repeat (first | apply Kd.R_alloc | apply Kd.R_drewN | apply Kd.R_drew)); exact HO_5.out) hb); have n2_ := Aside0.mk (below_step (by repeat (first | (with_reducible first | exact HB.out | apply below_alloc | apply pw_below_drewN | apply below_drew1) | exact HB.out)) hb); clear HO_3; clear HO_5; clear HB; have HO_3 := n0_; have HO_5 := n1_; have HB := n2_; clear n0_ n1_ n2_; (try clear hb); (try clear hb2); (try clear hk); (try clear hi)))
                        go_ret
                        exact ⟨by first | rfl | (simp [errW_none, errW_some] <;> rfl) | (simp [*, errW_none, errW_some] <;> rfl), by repeat (first | (with_reducible first | exact HB.out | apply below_alloc | apply pw_below_drewN | apply below_drew1) | exact HB.out)⟩
                      · replace c54 := Bool.eq_false_iff.mpr c54
                        subst c54
                        have H1 : (some ((t1255.length : Int) == 0)) = some r := by rw [if_neg (show ¬ (false = true) by decide)] at H; exact H
                        clear H
                        have H := H1
                        clear H1
                        obtain rfl := Option.some.inj H
                        go_wp2_with (first | (go_at_call 70; (with_reducible refine (impl_IsForm.calls k2 _ _ t1251 false _ ?side1 ?side2 A53.out).mono ?_); (case side1 => repeat (first | exact (Kd.R_reads' HO_3.out).2.2 | (with_reducible refine Kd.C_alloc ?_ _) | (with_reducible refine Kd.C_drewN ?_ _) | (with_reducible refine Kd.C_drew ?_))); (case side2 => exact (Kd.R_reads' HO_3.out).2.1); rintro e w56 ⟨rfl, hb⟩; have n0_ := Aside0.mk (Kd.R_below (by (with_reducible repeat (first | apply Kd.R_alloc | apply Kd.R_drewN | apply Kd.R_drew)); exact HO_3.out) hb); have n1_ := Aside0.mk (Kd.R_below (by (with_reducible repeat (first | apply Kd.R_alloc | apply Kd.R_drewN | apply Kd.R_drew)); exact HO_5.out) hb); have n2_ := Aside0.mk (below_step (by repeat (first | (with_reducible first | exact HB.out | apply below_alloc | apply pw_below_drewN | apply below_drew1) | exact HB.out)) hb); clear HO_3; clear HO_5; clear HB; have HO_3 := n0_; have HO_5 := n1_; have HB := n2_; clear n0_ n1_ n2_; (try clear hb); (try clear hb2); (try clear hk); (try clear hi)))
                        go_ret
                        exact ⟨by first | rfl | (simp [errW_none, errW_some] <;> rfl) | (simp [*, errW_none, errW_some] <;> rfl), by repeat (first | (with_reducible first | exact HB.out | apply below_alloc | apply pw_below_drewN | apply below_drew1) | exact HB.out)⟩
                    · rw [if_neg c52] at H
                      have c52b0 : decide ((t1255.length : Int) ≤ 200) = false := decide_eq_false c52
                      have c52b1 : decide (t1255.length ≤ 200) = false := decide_eq_false (by omega)
                      clear c52
                      obtain rfl := Option.some.inj H
                      go_wp2
                      go_ret
                      exact ⟨by first | rfl | (simp [errW_none, errW_some] <;> rfl) | (simp [*, errW_none, errW_some] <;> rfl), by repeat (first | (with_reducible first | exact HB.out | apply below_alloc | apply pw_below_drewN | apply below_drew1) | exact HB.out)⟩
                  · rw [if_neg c51] at H
                    have c51b0 : (x7_2 == (t1255.length : Int)) = false := beq_eq_false_iff_ne.mpr c51
                    have c51b1 : (x7_2 != (t1255.length : Int)) = true := bne_iff_ne.mpr c51
                    obtain rfl := Option.some.inj H
                    go_wp2
                    go_ret
                    exact ⟨by first | rfl | (simp [errW_none, errW_some] <;> rfl) | (simp [*, errW_none, errW_some] <;> rfl), by repeat (first | (with_reducible first | exact HB.out | apply below_alloc | apply pw_below_drewN | apply below_drew1) | exact HB.out)⟩
    · rw [if_neg c7] at H
      have c7b0 : ((t1255.length : Int) == (t1258.length : Int)) = false := beq_eq_false_iff_ne.mpr c7
      have c7b1 : ((t1255.length : Int) != (t1258.length : Int)) = true := bne_iff_ne.mpr c7
      have c7b2 : (t1255.length == t1258.length) = false := by first | simpa using c7 | (simp at c7 ⊢; omega)
      obtain rfl := Option.some.inj H
      go_enter Try.func13, Try.ntmps13
      go_wp2_with (first | ((with_reducible refine gate_callee (f := 62) rfl ?_); refine goesL_ (some 11) rfl rfl Try.func62 (by kernel_rfl) rfl #[.slice A0 l0.length c0] rfl (by (try simp only [List.map_toArray, List.map_cons, List.map_nil]); first | done | rfl | (simp only [List.length_drop, List.length_take]; rfl)) ?_; (with_reducible refine (laws_big.calls _ _ l0 false _ ?side1 ?side2 A2.out).mono ?_); (case side1 => repeat (first | exact HR0.out | (with_reducible refine Kd.C_alloc ?_ _) | (with_reducible refine Kd.C_drewN ?_ _) | (with_reducible refine Kd.C_drew ?_))); (case side2 => exact HC0.out); rintro e w' ⟨rfl, ⟨nd, rfl⟩⟩; refine ⟨_, rfl, ?_⟩) | ((with_reducible refine gate_callee (f := 63) rfl ?_); refine goesL_ (some 14) rfl rfl Try.func63 (by kernel_rfl) rfl #[.slice A0 l0.length c0] rfl (by (try simp only [List.map_toArray, List.map_cons, List.map_nil]); first | done | rfl | (simp only [List.length_drop, List.length_take]; rfl)) ?_; (with_reducible refine (spec_DrawWrittenBar.calls k _ _ l0 t1251 t1252 _ ?side1 ?side2 A4.out).mono ?_); (case side1 => repeat (first | exact HR0.out | (with_reducible refine Kd.C_alloc ?_ _) | (with_reducible refine Kd.C_drewN ?_ _) | (with_reducible refine Kd.C_drew ?_))); (case side2 => exact HC0.out); rintro e w57 ⟨v1253, rfl, ho0, hb⟩; refine ⟨_, rfl, ?_⟩; have n0_ := Aside0.mk (Kd.R_lower ho0 (below_size (by repeat (first | (with_reducible first | exact HB.out | apply below_alloc | apply pw_below_drewN | apply below_drew1) | exact HB.out)))); have n1_ := Aside0.mk (below_step (by repeat (first | (with_reducible first | exact HB.out | apply below_alloc | apply pw_below_drewN | apply below_drew1) | exact HB.out)) hb); clear HB; have HO1254 := n0_; have HB := n1_; clear n0_ n1_; (try clear hb); (try clear hb2); (try clear hk); (try clear hi); (try clear ho0); obtain ⟨Ao58, co58, eo58⟩ := Kd.R_slice HO1254.out; subst eo58) | ((with_reducible refine gate_callee (f := 64) rfl ?_); refine goesL_ (some 18) rfl rfl Try.func64 (by kernel_rfl) rfl #[.slice Ao58 t1251.length co58] rfl (by (try simp only [List.map_toArray, List.map_cons, List.map_nil]); first | done | rfl | (simp only [List.length_drop, List.length_take]; rfl)) ?_; (with_reducible refine (impl_Unfold.calls k _ _ t1251 t1255 _ ?side1 ?side2 A5.out).mono ?_); (case side1 => repeat (first | exact (Kd.R_reads' HO1254.out).2.2 | (with_reducible refine Kd.C_alloc ?_ _) | (with_reducible refine Kd.C_drewN ?_ _) | (with_reducible refine Kd.C_drew ?_))); (case side2 => exact (Kd.R_reads' HO1254.out).2.1); rintro e w59 ⟨v1256, rfl, ho0, hb⟩; refine ⟨_, rfl, ?_⟩; have n0_ := Aside0.mk (Kd.R_below (by (with_reducible repeat (first | apply Kd.R_alloc | apply Kd.R_drewN | apply Kd.R_drew)); exact HO1254.out) hb); have n1_ := Aside0.mk (Kd.R_lower ho0 (below_size (by repeat (first | (with_reducible first | exact HB.out | apply below_alloc | apply pw_below_drewN | apply below_drew1) | exact HB.out)))); have n2_ := Aside0.mk (below_step (by repeat (first | (with_reducible first | exact HB.out | apply below_alloc | apply pw_below_drewN | apply below_drew1) | exact HB.out)) hb); clear HO1254; clear HB; have HO1254 := n0_; have HO1257 := n1_; have HB := n2_; clear n0_ n1_ n2_; (try clear hb); (try clear hb2); (try clear hk); (try clear hi); (try clear ho0); obtain ⟨Ao60, co60, eo60⟩ := Kd.R_slice HO1257.out; subst eo60) | ((with_reducible refine gate_callee (f := 65) rfl ?_); refine goesL_ (some 22) rfl rfl Try.func65 (by kernel_rfl) rfl #[.slice Ao58 t1251.length co58] rfl (by (try simp only [List.map_toArray, List.map_cons, List.map_nil]); first | done | rfl | (simp only [List.length_drop, List.length_take]; rfl)) ?_; (with_reducible refine (spec_Unfold.calls k _ _ t1251 t1258 _ ?side1 ?side2 A6.out).mono ?_); (case side1 => repeat (first | exact (Kd.R_reads' HO1254.out).2.2 | (with_reducible refine Kd.C_alloc ?_ _) | (with_reducible refine Kd.C_drewN ?_ _) | (with_reducible refine Kd.C_drew ?_))); (case side2 => exact (Kd.R_reads' HO1254.out).2.1); rintro e w61 ⟨v1259, rfl, ho0, hb⟩; refine ⟨_, rfl, ?_⟩; have n0_ := Aside0.mk (Kd.R_below (by (with_reducible repeat (first | apply Kd.R_alloc | apply Kd.R_drewN | apply Kd.R_drew)); exact HO1254.out) hb); have n1_ := Aside0.mk (Kd.R_elder' (by (with_reducible repeat (first | apply Kd.R_alloc | apply Kd.R_drewN | apply Kd.R_drew)); exact HO1257.out) (Kd.R_base ho0) hb); have n2_ := Aside0.mk (Kd.R_lower (Kd.R_new' ho0 (Kd.R_lt (by (with_reducible repeat (first | apply Kd.R_alloc | apply Kd.R_drewN | apply Kd.R_drew)); exact HO1257.out))) (below_size (by repeat (first | (with_reducible first | exact HB.out | apply below_alloc | apply pw_below_drewN | apply below_drew1) | exact HB.out)))); have n3_ := Aside0.mk (below_step (by repeat (first | (with_reducible first | exact HB.out | apply below_alloc | apply pw_below_drewN | apply below_drew1) | exact HB.out)) hb); clear HO1254; clear HO1257; clear HB; have HO1254 := n0_; have HO1257 := n1_; have HO1260 := n2_; have HB := n3_; clear n0_ n1_ n2_ n3_; (try clear hb); (try clear hb2); (try clear hk); (try clear hi); (try clear ho0); obtain ⟨Ao62, co62, eo62⟩ := Kd.R_slice HO1260.out; subst eo62))
      go_ret
      exact ⟨by first | rfl | (simp [errW_none, errW_some] <;> rfl) | (simp [*, errW_none, errW_some] <;> rfl), by repeat (first | (with_reducible first | exact HB.out | apply below_alloc | apply pw_below_drewN | apply below_drew1) | exact HB.out)⟩

/-- THE ONE PURE STATEMENT of laws_FnForms: yours. -/
def laws_FnForms.Pure : Prop := ∀ (l0 : List Int), l0.length ≤ maxLen → l0.length * 1 ≤ 140737488351232 → (∀ x ∈ l0, (Lit.int .u8 x).wf = true) → ∃ k, laws_FnForms.f k l0 = some true
theorem laws_FnForms.walk (P : laws_FnForms.Pure) (a0 : Option Addr) (len0 cap0 : Nat) (z0 : List Int) (w : World) (w0 : (a0 = none ∧ len0 = 0 ∧ cap0 = 0 ∧ z0 = []) ∨ ∃ x, a0 = some x ∧ len0 ≤ cap0 ∧ cap0 ≤ maxLen ∧ z0.length = cap0 ∧ (∀ i, i < z0.length → w.cell? (x.add i) = some (.int .u8 (z0.getD i 0))) ∧ ∀ n ∈ z0, (Lit.int .u8 n).wf = true) (y0 : len0 * 1 ≤ 140737488351232) :
    Calls Try.prog 13 #[.slice a0 len0 cap0] w fun e w' => e = .returned (.bool true) ∧ Below w.heap.size w w' := by
  obtain ⟨l0, rfl, hr0, hm0, hw0, hc0⟩ := ReadsInt.ofRowC w0
  obtain ⟨k, h⟩ := P l0 hm0 y0 hw0
  refine (laws_FnForms.calls k _ _ l0 true w (Kd.C_of_reads (d := (0 : Int)) (h1 := fun _ => rfl) hr0) hc0 h).mono ?_
  rintro e w' ⟨rfl, hd⟩
  exact ⟨rfl, hd⟩

end Go.Proofs.Ytiophiipmgpaeaa.F
