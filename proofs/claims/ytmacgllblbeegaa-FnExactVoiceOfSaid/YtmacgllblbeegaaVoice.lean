/- The events of one voice. -/
import Derived.Test.YtmacgllblbeegaaScore
import Derived.Test.YtmacgllblbeegaaF22
import Derived.Test.YtmacgllblbeegaaF26
namespace Go.Proofs.Ytmacgllblbeegaa.F
open Go.RowKit Go.Proofs.Ytmacgllblbeegaa.Opened Go.Proofs.YtmacgllblbeegaaW.PrintWords Go.Proofs.YtmacgllblbeegaaW.PrintLast Go.Proofs.YtmacgllblbeegaaW.PrintMore
set_option linter.unusedVariables false
set_option linter.unusedSimpArgs false

/-- The events of a voice, in their order. -/
def voiceSc (l : List Evt) (v : Int) : List Evt := l.filter (fun y => !notV v y)
theorem voiceSc_length (l : List Evt) (v : Int) : (voiceSc l v).length ≤ l.length := List.length_filter_le _ _
theorem impl_VoiceOf.ok (l : List Evt) (v : Int) (hm : l.length ≤ 1048576) : impl_VoiceOf.f l v = some (voiceSc l v) := by
  unfold impl_VoiceOf.f
  rw [if_pos (by omega)]
  rfl
theorem voice_keep {v : Int} {x : Evt} (t : List Evt) (h : notV v x = false) : voiceSc (x :: t) v = x :: voiceSc t v := by
  unfold voiceSc
  rw [List.filter_cons_of_pos (by simp [h])]
theorem voice_skip {v : Int} {x : Evt} (t : List Evt) (h : notV v x = true) : voiceSc (x :: t) v = voiceSc t v := by
  unfold voiceSc
  rw [List.filter_cons_of_neg (by simp [h])]
theorem spec_VoiceOf.loop (l : List Evt) (v : Int) (hm : l.length ≤ 1048576) : ∀ (d k : Nat) (acc : List Evt) (n : Nat), l.length - n ≤ d → d < k → acc.length + d ≤ 3000000 → spec_VoiceOf.l0 k l v acc (n : Int) = some (acc ++ voiceSc (l.drop n) v) := by
  intro d
  induction d with
  | zero =>
    intro k acc n hd hk ha
    obtain ⟨k, rfl⟩ : ∃ m, k = m + 1 := ⟨k - 1, by omega⟩
    simp only [spec_VoiceOf.l0]
    rw [if_neg (by omega), List.drop_of_length_le (by omega)]
    simp [voiceSc]
  | succ d ih =>
    intro k acc n hd hk ha
    obtain ⟨k, rfl⟩ : ∃ m, k = m + 1 := ⟨k - 1, by omega⟩
    by_cases h : n < l.length
    · simp only [spec_VoiceOf.l0]
      rw [if_pos (by omega), if_pos (by omega), rdT37 l n h, w1 h (by omega), List.drop_eq_getElem_cons h]
      by_cases c : l[n].f3 = v
      · rw [if_pos c, if_pos (by omega)]
        have e : (⟨l[n].f0, l[n].f1, l[n].f2, l[n].f3⟩ : Evt) = l[n] := rfl
        rw [e, ih k (acc ++ [l[n]]) (n + 1) (by omega) (by omega) (by simp; omega)]
        have : notV v l[n] = false := by unfold notV; simp [c]
        rw [voice_keep _ this, List.append_assoc, List.singleton_append]
      · rw [if_neg c, ih k acc (n + 1) (by omega) (by omega) (by omega)]
        have : notV v l[n] = true := by unfold notV; simp [c]
        rw [voice_skip _ this]
    · simp only [spec_VoiceOf.l0]
      rw [if_neg (by omega), List.drop_of_length_le (by omega)]
      simp [voiceSc]
theorem spec_VoiceOf.ok (l : List Evt) (v : Int) (hm : l.length ≤ 1048576) (k : Nat) (hk : l.length < k) : spec_VoiceOf.f k l v = some (voiceSc l v) := by
  unfold spec_VoiceOf.f
  have := spec_VoiceOf.loop l v hm l.length k [] 0 (by omega) hk (by simp; omega)
  simpa using this
end Go.Proofs.Ytmacgllblbeegaa.F
