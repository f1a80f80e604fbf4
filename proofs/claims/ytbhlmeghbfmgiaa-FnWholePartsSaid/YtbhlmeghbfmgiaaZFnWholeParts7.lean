/- FnWholeParts, part 7 of 7: texts of the claim, joined into one file. -/
import Derived.Test.YtbhlmeghbfmgiaaZFnWholeParts6
import Derived.Test.YtbhlmeghbfmgiaaRows
import Derived.WalkKit
import Derived.ProofKit
import Derived.OpenShut
import Derived.ShutString
import Derived.ChangeOld
import Derived.Below
import Derived.Carry
import Derived.SizedLaws
import Derived.Lib.SmallJoins

namespace Go.Proofs.Ytbhlmeghbfmgiaa.Pure
open Go.RowKit Go.Proofs.Ytbhlmeghbfmgiaa.F Go.Proofs.Ytbhlmeghbfmgiaa.Opened Go.Proofs.YtbhlmeghbfmgiaaW.PrintWords Go.Proofs.YtbhlmeghbfmgiaaW.PrintLast Go.Proofs.YtbhlmeghbfmgiaaW.PrintMore
set_option linter.unusedVariables false
set_option linter.unusedSimpArgs false
theorem eqLoop (a : List Evt) (hm : a.length ≤ 9223372036854775807) : ∀ (d k n : Nat), a.length - n ≤ d → d < k → impl_Event_87.l0 k a a (a.length : Int) (n : Int) = some true := by
  intro d
  induction d with
  | zero =>
    intro k n hd hk
    obtain ⟨k, rfl⟩ : ∃ m, k = m + 1 := ⟨k - 1, by omega⟩
    simp only [impl_Event_87.l0]
    rw [if_neg (by omega)]
  | succ d ih =>
    intro k n hd hk
    obtain ⟨k, rfl⟩ : ∃ m, k = m + 1 := ⟨k - 1, by omega⟩
    simp only [impl_Event_87.l0]
    by_cases h : n < a.length
    · rw [if_pos (by omega), if_pos (by omega), if_pos (by omega), if_pos (by omega), if_neg (by simp), w1 h hm]
      exact ih k (n + 1) (by omega) (by omega)
    · rw [if_neg (by omega)]
theorem eqSelf (a : List Evt) (hm : a.length ≤ 9223372036854775807) (k : Nat) (hk : a.length < k) : impl_EqualScores.f k a a = some true := by
  unfold impl_EqualScores.f impl_Event_87.f
  have e := eqLoop a hm a.length k 0 (by omega) hk
  rw [show ((0 : Nat) : Int) = 0 from rfl] at e
  rw [if_pos rfl, e]
  rfl
theorem wrapI (x : Int) : -9223372036854775808 ≤ wrap64 x := by unfold wrap64; omega
theorem drawPF (b : List Int) (hb : b.length ≤ 1048576) (k : Nat) (hk : b.length + 100 < k) : ∃ l v e, spec_DrawPartFrom.f k b = some (l, v, e) ∧ l.length ≤ 16 ∧ -9223372036854775808 ≤ e := by
  unfold spec_DrawPartFrom.f
  obtain ⟨h1, e1⟩ := spec_l1New.ok b (by omega) k (by omega)
  rw [e1]
  simp only [Option.bind_some]
  obtain ⟨l, i2, h2, e2, a2, s2, c2, d2⟩ := spec_l13Score.ok b hb k (by omega) 0 h1 (by omega) (by omega)
  rw [e2]
  simp only [Option.bind_some]
  obtain ⟨q, i3, h3, e3, c3, d3⟩ := spec_l1Once.ok b i2 h2 4 (by omega) hb c2 d2
  rw [e3]
  simp only [Option.bind_some]
  by_cases hq : q = true
  · rw [if_pos hq]
    obtain ⟨l', i4, h4, e4, a4, c4, d4⟩ := spec_l8Any.ok b hb k (by omega) i3 h3 c3 d3
    rw [e4]
    simp only [Option.bind_some]
    obtain ⟨x, i5, h5, e5, a5, b5, c5, d5⟩ := spec_l1Below.ok' b i4 h4 3 (by omega) hb c4 d4
    rw [e5]
    simp only [Option.bind_some]
    rw [spec_EndOf.ok l' (by omega) k (by omega)]
    simp only [Option.bind_some]
    obtain ⟨y, i6, h6, e6, a6, c6, d6⟩ := spec_l1Int.ok b i5 h5 [0, 5, 40, -1, 2100] (by simp) hb c5 d5
    rw [e6]
    exact ⟨_, _, _, rfl, by omega, wrapI _⟩
  · rw [if_neg hq]
    obtain ⟨x, i5, h5, e5, a5, b5, c5, d5⟩ := spec_l1Below.ok' b i3 h3 3 (by omega) hb c3 d3
    rw [e5]
    simp only [Option.bind_some]
    rw [spec_EndOf.ok l (by omega) k (by omega)]
    simp only [Option.bind_some]
    obtain ⟨y, i6, h6, e6, a6, c6, d6⟩ := spec_l1Int.ok b i5 h5 [0, 5, 40, -1, 2100] (by simp) hb c5 d5
    rw [e6]
    exact ⟨_, _, _, rfl, by omega, wrapI _⟩
theorem j1_ok (b : List Int) (hb : b.length ≤ 1048576) (k : Nat) (hk : b.length + 4000 < k) : laws_FnWholeParts.j1 k b = some true := by
  obtain ⟨k, rfl⟩ : ∃ m, k = m + 1 := ⟨k - 1, by omega⟩
  simp only [laws_FnWholeParts.j1]
  unfold spec_DrawIsPart.f
  obtain ⟨h1, e1⟩ := spec_l1New.ok b (by omega) k (by omega)
  rw [e1]
  simp only [Option.bind_some]
  obtain ⟨p, i2, h2, e2, a2, c2, d2⟩ := spec_l13Part.ok b hb k (by omega) 0 h1 (by omega) (by omega)
  rw [e2]
  simp only [Option.bind_some]
  rw [impl_CountNotes.ok p (by omega) k (by omega)]
  simp only [Option.bind_some]
  rw [if_pos (cntN_bound p).2, impl_EventsOf.ok p 1 (by omega) k (by omega)]
  simp only [Option.bind_some]
  by_cases h0 : ((evsOf p 1).length : Int) = 0
  · rw [if_pos h0]
  · rw [if_neg h0, impl_IsPart.ok p (by omega) k (by omega)]
    have : isPartB p = true := by
      by_cases hp : isPartB p = true
      · exact hp
      · exfalso
        apply h0
        unfold evsOf
        rw [if_neg hp]
        rfl
    rw [this]
    rfl
theorem sumLoop (b : List Int) (hb : b.length ≤ 1048576) (l : List Evt) (hl : l.length ≤ 16) (v e : Int) (p : List Sgn) (hp : p.length ≤ 1000) (W : WholeP e 0 v (voiceSc l v) none p) : ∀ (d k n : Nat) (c : Int), p.length - n ≤ d → n ≤ p.length → c + sumL (p.drop n) = e → 0 ≤ c → c ≤ 3000 * n → d + b.length + 5000 < k → laws_FnWholeParts.l0 k b l v e p c (n : Int) = some true := by
  intro d
  have hend : ∀ (k n : Nat) (c : Int), p.length ≤ n → c + sumL (p.drop n) = e → b.length + 4900 < k → laws_FnWholeParts.l0 (k + 1) b l v e p c (n : Int) = some true := by
    intro k n c hn hc hk
    rw [List.drop_of_length_le hn] at hc
    simp only [sumL, Int.add_zero] at hc
    have hpart : isPartB p = true := W.part rfl
    have hv := voiceSc_length l v
    simp only [laws_FnWholeParts.l0]
    rw [if_neg (by omega), impl_IsPart.ok p (by omega) k (by omega), hpart]
    simp only [Option.bind_some, if_true]
    rw [if_pos hc, impl_EventsOf.ok p v (by omega) k (by omega)]
    simp only [Option.bind_some]
    have hev : evsOf p v = voiceSc l v := by
      unfold evsOf
      rw [if_pos hpart, W.evs]
    rw [hev, impl_VoiceOf.ok l v (by omega)]
    simp only [Option.bind_some]
    rw [eqSelf (voiceSc l v) (by omega) k (by omega)]
    simp only [Option.bind_some, if_true]
    rw [impl_CountNotes.ok p (by omega) k (by omega)]
    simp only [Option.bind_some]
    rw [if_pos W.cnt]
    obtain ⟨r, er, hr⟩ := impl_LongestRest.le p (by omega) e (by have := W.low; omega) W.rest k (by omega)
    rw [er]
    simp only [Option.bind_some]
    rw [if_neg (by omega)]
    exact j1_ok b hb k (by omega)
  induction d with
  | zero =>
    intro k n c hd hn hc h0 h1 hk
    obtain ⟨k, rfl⟩ : ∃ m, k = m + 1 := ⟨k - 1, by omega⟩
    exact hend k n c (by omega) hc (by omega)
  | succ d ih =>
    intro k n c hd hn hc h0 h1 hk
    obtain ⟨k, rfl⟩ : ∃ m, k = m + 1 := ⟨k - 1, by omega⟩
    by_cases h : n < p.length
    · rw [List.drop_eq_getElem_cons h] at hc
      simp only [sumL] at hc
      have hlg := W.long p[n] (List.getElem_mem h)
      have ew : wrap64 (c + p[n].f1) = c + p[n].f1 := by unfold wrap64; omega
      simp only [laws_FnWholeParts.l0]
      rw [if_pos (by omega), if_pos (by omega), rdT111 p n h, w1 h (by omega), ew]
      exact ih k (n + 1) (c + p[n].f1) (by omega) (by omega) (by omega) (by omega) (by omega) (by omega)
    · exact hend k n c (by omega) hc (by omega)
theorem pure_FnWholeParts (b : List Int) (hl : b.length ≤ 9223372036854775807) (hg : ∀ x ∈ b, (Lit.int .u8 x).wf = true) : ∃ k, laws_FnWholeParts.f k b = some true := by
  by_cases hb : (b.length : Int) > 1048576
  · refine ⟨0, ?_⟩
    unfold laws_FnWholeParts.f laws_big.f
    simp [hb]
  · obtain ⟨K, hK⟩ : ∃ K : Nat, b.length + 10000 ≤ K := ⟨_, Nat.le_refl _⟩
    refine ⟨K, ?_⟩
    have hj := j1_ok b (by omega) K (by omega)
    obtain ⟨l, v, e, e1, a1, b1⟩ := drawPF b (by omega) K (by omega)
    unfold laws_FnWholeParts.f laws_big.f
    simp only [Option.bind_some, hb, decide_false, Bool.false_eq_true, if_false]
    rw [e1]
    simp only [Option.bind_some]
    rw [impl_PartFrom.ok l v e (by omega) K (by omega)]
    simp only [Option.bind_some]
    rw [spec_PartFrom.ok l v e (by omega) K (by omega)]
    simp only [Option.bind_some, bne_self_eq_false, Bool.false_eq_true, if_false]
    have hpl := partOf_length l v e
    have hw := partOf_whole l v e b1
    generalize partOf l v e = r at hpl hw
    obtain ⟨p, q⟩ := r
    simp only at hpl ⊢
    by_cases hq : q = true
    · subst hq
      rw [if_pos rfl]
      obtain ⟨W, _⟩ := hw p rfl
      exact sumLoop b (by omega) l a1 v e p hpl W p.length K 0 0 (by omega) (by omega) (by have := W.sum; simp only [List.drop_zero]; omega) (by omega) (by omega) (by omega)
    · rw [if_neg hq]
      exact hj
end Go.Proofs.Ytbhlmeghbfmgiaa.Pure

namespace Go.Proofs.Ytbhlmeghbfmgiaa.fnWholeParts
open Go.ChangeShapes Go.WideShapes Go.ChangeAt Go.RowKit Go.Joins Go.Proofs.YtbhlmeghbfmgiaaW.PrintWords Go.Proofs.Ytbhlmeghbfmgiaa.Opened Go.Proofs.Ytbhlmeghbfmgiaa.F
open Go.ChangeMaps (open_string shut_string)
set_option linter.unusedVariables false
theorem own : ownKnob Try.prog.godebug = none := by kernel_rfl
theorem laidOut : laidOutB Try.prog = true := by kernel_rfl
set_option maxRecDepth 100000 in
theorem lifted (os : Os) (started : os.Started) (H : Type) (enc : TypeId × Value → H) :
    ReturnsInHanded {} Try.checked os 9 .any (Rows.fnWholePartsSpec.pre6 enc Try.prog Try.f9 Rows.fnWholePartsRow.domain false) (Rows.fnWholePartsSpec.post enc Try.prog Try.f9 false true false false) := by
  refine returnsInHanded_of_change_sized (C := Try.checked) own started (by kernel_rfl) Try.func9
    (ChangeSpec.witness6 (enc := enc) (C := Try.checked) false ⟨#[], #[.slice none 0 0], []⟩ 8 (by kernel_rfl) (by kernel_rfl) (by kernel_rfl) (by kernel_rfl)) ?_
  intro W base args ds gs before hval0 hW hcnd hsz0 _
  have hval : ∀ (j : Nat) t v, Try.f9.params[j]? = some t → args[j]? = some v → Value.okWide Try.prog W .any base t v := hval0
  have hW' := hW
  obtain ⟨p, q, hA0, hV, rfl, hfz, hnd⟩ := hW
  have hA : DataW.TrodAll enc Try.prog W 0 (fun _ => true) true Try.f9.params.toList args.toList ds p := hA0
  rw [Try.params9] at hA hval
  obtain ⟨v0, vs0, d0, ds0, p0, q0, hargs, rfl, rfl, h0, r0⟩ := trodAll_cons hA
  obtain ⟨rfl, rfl, rfl⟩ := trodAll_nil r0
  obtain rfl : args = #[v0] := by cases args; simp_all
  obtain ⟨rfl, rfl⟩ := trodVars_none hV
  have k0 := h0
  have lt0 : ∀ x ∈ p0, x.block < W.heap.size := by obtain ⟨m, hm⟩ := k0; exact DataW.trod_lt m _ _ _ hm
  obtain ⟨b0, len0, cap0, rfl⟩ := okWide_slice Try.underlying22 (hval 0 22 v0 rfl rfl)
  obtain ⟨l0, hl0, hc0, hC0, hg0⟩ := open_nums (k := .u8) Try.underlying22 Try.underlying5 (by kernel_rfl) h0
  subst hl0
  clear hA0 hval0 hsz0
  obtain ⟨kk, hp⟩ := Pure.pure_FnWholeParts l0 hC0.2.1 hg0
  refine (laws_FnWholeParts.calls kk _ _ l0 true W hC0 hc0 hp).mono fun e W' ⟨he, bel0⟩ => ?_
  have bel : Below W.heap.size W W' := bel0
  subst he
  exact ⟨_, rfl, _, _, _, [], _, [], hW', trodAll_mk1 (shut_bool Try.underlying4 _), (trodAll_cons_mk (Below.trod laidOut (by kernel_rfl) (of_decide_eq_true (by kernel_rfl)) k0 bel lt0) trodAll_mk0), rfl, bel.frame _, fun h => by cases h⟩
theorem over : Rows.fnWholePartsRow.holds Try.pinned (OpenSpec.ofChange Rows.fnWholePartsSpec) :=
  OpenClaim.holds_of_wide 9 Try.f9 rfl rfl rfl rfl rfl rfl rfl ⟨rfl, rfl, rfl, rfl, rfl⟩ rfl rfl rfl rfl rfl (by kernel_rfl) Try.func9 (by kernel_rfl)
    (of_decide_eq_true (by kernel_rfl)) (by unfold Func.isWrapper; first | (rw [if_pos (by decide +kernel)]; kernel_rfl) | (rw [if_neg (by decide +kernel)]; exact ⟨rfl, rfl⟩))
    (fun os started H enc _ => lifted os started H enc)
theorem proved : Rows.FnWholePartsSaid := over
#print axioms proved
end Go.Proofs.Ytbhlmeghbfmgiaa.fnWholeParts
namespace Go.Proofs.Ytbhlmeghbfmgiaa
theorem fnWholeParts_holds : Rows.FnWholePartsSaid := fnWholeParts.proved
end Go.Proofs.Ytbhlmeghbfmgiaa
