/- FnExactPlayScore, part 8 of 7: texts of the claim, joined into one file. -/
import Derived.Test.YtiophiipmgpaeaaZFnExactPlayScore7
import Derived.Test.YtiophiipmgpaeaaRows
import Derived.WalkKit
import Derived.ProofKit
import Derived.OpenShut
import Derived.ShutString
import Derived.ChangeOld
import Derived.Below
import Derived.Carry
import Derived.SizedLaws
import Derived.Lib.SmallJoins

namespace Go.Proofs.Ytiophiipmgpaeaa.fnExactPlayScore
open Go.ChangeShapes Go.WideShapes Go.ChangeAt Go.RowKit Go.Joins Go.Proofs.YtiophiipmgpaeaaW.PrintWords Go.Proofs.Ytiophiipmgpaeaa.Opened Go.Proofs.Ytiophiipmgpaeaa.F
open Go.ChangeMaps (open_string shut_string)
set_option linter.unusedVariables false
theorem own : ownKnob Try.prog.godebug = none := by kernel_rfl
theorem laidOut : laidOutB Try.prog = true := by kernel_rfl
set_option maxRecDepth 100000 in
theorem lifted (os : Os) (started : os.Started) (H : Type) (enc : TypeId × Value → H) :
  ReturnsInHanded {} Try.checked os 12 .any (Rows.fnExactPlayScoreSpec.pre6 enc Try.prog Try.f12 Rows.fnExactPlayScoreRow.domain false) (Rows.fnExactPlayScoreSpec.post enc Try.prog Try.f12 false true false false) := by
 refine returnsInHanded_of_change_sized (C := Try.checked) own started (by kernel_rfl) Try.func12
  (ChangeSpec.witness6 (enc := enc) (C := Try.checked) false ⟨#[], #[.slice none 0 0, .slice none 0 0], []⟩ 8 (by kernel_rfl) (by kernel_rfl) (by kernel_rfl) (by kernel_rfl)) ?_
 intro W base args ds gs before hval0 hW hcnd hsz0 _
 have hval : ∀ (j : Nat) t v, Try.f12.params[j]? = some t → args[j]? = some v → Value.okWide Try.prog W .any base t v := hval0
 have hW' := hW
 obtain ⟨p, q, hA0, hV, rfl, hfz, hnd⟩ := hW
 have hA : DataW.TrodAll enc Try.prog W 0 (fun _ => true) true Try.f12.params.toList args.toList ds p := hA0
 rw [Try.params12] at hA hval
 obtain ⟨v0, vs0, d0, ds0, p0, q0, hargs, rfl, rfl, h0, r0⟩ := trodAll_cons hA
 obtain ⟨v1, vs1, d1, ds1, p1, q1, rfl, rfl, rfl, h1, r1⟩ := trodAll_cons r0
 obtain ⟨rfl, rfl, rfl⟩ := trodAll_nil r1
 obtain rfl : args = #[v0, v1] := by cases args; simp_all
 obtain ⟨rfl, rfl⟩ := trodVars_none hV
 have k0 := h0
 have lt0 : ∀ x ∈ p0, x.block < W.heap.size := by obtain ⟨m, hm⟩ := k0; exact DataW.trod_lt m _ _ _ hm
 obtain ⟨b0, len0, cap0, rfl⟩ := okWide_slice Try.underlying57 (hval 0 57 v0 rfl rfl)
 obtain ⟨l0, hl0, hc0, hC0, hg0⟩ := open_rows k126 Good126 Try.underlying57 Try.underlying126 (by kernel_rfl) (by kernel_rfl) (by rfl) (hk126 Try.underlying126) h0
 subst hl0
 have k1 := h1
 have lt1 : ∀ x ∈ p1, x.block < W.heap.size := by obtain ⟨m, hm⟩ := k1; exact DataW.trod_lt m _ _ _ hm
 obtain ⟨b1, len1, cap1, rfl⟩ := okWide_slice Try.underlying71 (hval 1 71 v1 rfl rfl)
 obtain ⟨l1, hl1, hc1, hC1, hg1⟩ := open_rows k142 Good142 Try.underlying71 Try.underlying142 (by kernel_rfl) (by kernel_rfl) (by rfl) (hk142 Try.underlying142) h1
 subst hl1
 clear hA0 hval0 hsz0
 obtain ⟨kk, hp⟩ := Pure.pure_FnExactPlayScore l0 l1 hC0.2.1 hg0 hC1.2.1 hg1
 refine (laws_FnExactPlayScore.calls kk _ _ l0 _ _ l1 true W hC0 hc0 hC1 hc1 hp).mono fun e W' ⟨he, bel0⟩ => ?_
 have bel : Below W.heap.size W W' := bel0
 subst he
 exact ⟨_, rfl, _, _, _, [], _, [], hW', trodAll_mk1 (shut_bool Try.underlying4 _), (trodAll_cons_mk (Below.trod laidOut (by kernel_rfl) (of_decide_eq_true (by kernel_rfl)) k0 bel lt0) (trodAll_cons_mk (Below.trod laidOut (by kernel_rfl) (of_decide_eq_true (by kernel_rfl)) k1 bel lt1) trodAll_mk0)), rfl, bel.frame _, fun h => by cases h⟩
theorem over : Rows.fnExactPlayScoreRow.holds Try.pinned (OpenSpec.ofChange Rows.fnExactPlayScoreSpec) :=
 OpenClaim.holds_of_wide 12 Try.f12 rfl rfl rfl rfl rfl rfl rfl ⟨rfl, rfl, rfl, rfl, rfl⟩ rfl rfl rfl rfl rfl (by kernel_rfl) Try.func12 (by kernel_rfl)
  (of_decide_eq_true (by kernel_rfl)) (by unfold Func.isWrapper; first | (rw [if_pos (by decide +kernel)]; kernel_rfl) | (rw [if_neg (by decide +kernel)]; exact ⟨rfl, rfl⟩))
  (fun os started H enc _ => lifted os started H enc)
theorem proved : Rows.FnExactPlayScoreSaid := over
#print axioms proved
end Go.Proofs.Ytiophiipmgpaeaa.fnExactPlayScore
namespace Go.Proofs.Ytiophiipmgpaeaa
theorem fnExactPlayScore_holds : Rows.FnExactPlayScoreSaid := fnExactPlayScore.proved
end Go.Proofs.Ytiophiipmgpaeaa
