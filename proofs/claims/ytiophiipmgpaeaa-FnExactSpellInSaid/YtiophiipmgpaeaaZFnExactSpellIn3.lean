/- FnExactSpellIn, part 3 of 3: texts of the claim, joined into one file. -/
import Derived.Test.YtiophiipmgpaeaaZFnExactSpellIn2
import Derived.Shelf.Abstract
import Derived.Deep.Slices
import Derived.Deep.Fields
import Derived.ChangeSame
import Derived.ChangeArms
import Derived.Lib.SmallJoins
import Derived.OpenShut
import Derived.Test.YtiophiipmgpaeaaRows
import Derived.WalkKit
import Derived.ProofKit
import Derived.ShutString
import Derived.ChangeOld
import Derived.Below
import Derived.Carry
import Derived.SizedLaws

namespace Go.Proofs.Ytiophiipmgpaeaa.F
open Go.RowKit Go.Proofs.YtiophiipmgpaeaaW.PrintWords Go.Proofs.YtiophiipmgpaeaaW.PrintLast Go.Proofs.YtiophiipmgpaeaaW.PrintMore
attribute [local go_sem] max2_int min2_int max_two min_two max_three min_three max_four min_four
set_option linter.unusedVariables false
set_option linter.unusedSimpArgs false
def shI (s : Int) : Int := if s = 0 then 1 else if s = 1 then 3 else if s = 2 then 5 else if s = 3 then 0 else if s = 4 then 2 else if s = 5 then 4 else 6
def alterI (k s : Int) : Int := if ((-7 ≤ k ∧ k ≤ 7) ∧ (0 ≤ s ∧ s ≤ 6)) then (if shI s < k then 1 else if 6 - shI s < -k then -1 else 0) else 0
theorem shI_b (s : Int) : 0 ≤ shI s ∧ shI s ≤ 6 := by
 unfold shI
 repeat' split
 all_goals omega
theorem isKey_ok (k : Int) : impl_IsKey.f k = some (decide (-7 ≤ k ∧ k ≤ 7)) := by
 unfold impl_IsKey.f
 rw [InR_ok]
 rfl
theorem index_ok (s : Int) (hs : 0 ≤ s ∧ s ≤ 6) (k : Nat) : slices_Index_int_int.f (k + 8) [3, 0, 4, 1, 5, 2, 6] s = some (shI s) := by
 have c1 : s = 0 ∨ s = 1 ∨ s = 2 ∨ s = 3 ∨ s = 4 ∨ s = 5 ∨ s = 6 := by omega
 rcases c1 with rfl | rfl | rfl | rfl | rfl | rfl | rfl <;> simp +decide [slices_Index_int_int.f, slices_Index_int_int.l0, rd, wrap64, shI]
theorem alter_ok (k s : Int) (n : Nat) : impl_AlterIn.f (n + 9) k s = some (alterI k s) := by
 unfold impl_AlterIn.f alterI
 rw [isKey_ok, InR_ok]
 simp only [Option.bind_some, impl_AlterIn.j0]
 by_cases h1 : -7 ≤ k ∧ k ≤ 7
 ·
  by_cases h2 : 0 ≤ s ∧ s ≤ 6
  ·
   have hb := shI_b s
   rw [if_pos (decide_eq_true h1), decide_eq_true h2, if_neg (by decide), index_ok s h2 n, Option.bind_some, wq (x := 6 - shI s) (by omega) (by omega), wq (x := -k) (by omega) (by omega), if_pos (c := (-7 ≤ k ∧ k ≤ 7) ∧ (0 ≤ s ∧ s ≤ 6)) ⟨h1, h2⟩]
   repeat' split
   all_goals rfl
  ·
   rw [if_pos (decide_eq_true h1), decide_eq_false h2, if_pos (c := (!false) = true) rfl, if_neg (fun h => h2 h.2)]
 ·
  rw [if_neg (by rw [decide_eq_false h1]; simp), if_pos trivial, if_neg (fun h => h1 h.1)]
def inKeyI (k s a o : Int) : Bool := decide (-7 ≤ k ∧ k ≤ 7) && (isNoteI s a o && (a == alterI k s))
theorem inKey_ok (k s a o : Int) (n : Nat) : impl_IsInKey.f (n + 9) k s a o = some (inKeyI k s a o) := by
 unfold impl_IsInKey.f inKeyI
 rw [isKey_ok, isNote_ok, alter_ok]
 simp only [Option.bind_some]
 by_cases h1 : -7 ≤ k ∧ k ≤ 7
 ·
  rw [if_pos (decide_eq_true h1), decide_eq_true h1]
  cases isNoteI s a o <;> rfl
 ·
  rw [if_neg (by rw [decide_eq_false h1]; simp), decide_eq_false h1]
  rfl
def qkI (p k s a o : Int) : Bool := pitI s a o == p && inKeyI k s a o
set_option maxHeartbeats 8000000 in
set_option maxRecDepth 100000 in
theorem sk_pred (p k : Int) (gp ga : Nat) (s a o : Int) (w : World) (hs : 0 ≤ s ∧ s ≤ 6) (ha : -100 ≤ a ∧ a ≤ 100) (ho : -1000 ≤ o ∧ o ≤ 1000) (hp : w.cell? ⟨gp, 0, none⟩ = some (.int .i64 p)) (hl : w.cell? ⟨ga, 0, none⟩ = some (.int .i64 k)) :
  Calls Try.prog 104 #[.agg #[.int .i64 s, .int .i64 a, .int .i64 o], .pointer (some ⟨gp, 0, none⟩), .pointer (some ⟨ga, 0, none⟩)] w fun e w' => e = .returned (.bool (qkI p k s a o)) ∧ Below w.heap.size w w' := by
 have hu64 := Try.underlying64
 have HP := Aside0.mk (pitch_ok hs ha ho)
 have HK := Aside0.mk (inKey_ok k s a o 0)
 have HB := Aside0.mk (Below.refl w.heap.size w)
 have HC := Aside0.mk hp
 have HL := Aside0.mk hl
 clear hs ha ho hp hl
 unfold qkI
 generalize pitI s a o = y at HP ⊢
 generalize inKeyI k s a o = c2 at HK ⊢
 obtain ⟨c1, hc1⟩ : ∃ c1, c1 = (y == p) := ⟨_, rfl⟩
 cases c1 <;> cases c2
 all_goals
  replace hc1 := hc1.symm
  go_enter Try.func104, Try.ntmps104
  go_upto_region 1 with (first | ((with_reducible refine gate_dst (N := 3) rfl ?_); refine box_event ?hg (N := 3) ?hd (cs := #[.int .i64 s, .int .i64 a, .int .i64 o]) (t := 64) ?hr ?_; (case hd => rfl); (case hg => rfl); (case hr => first | (go_simp; done) | (go_simp; rfl)); intro gb hg w3 hbox hb; have n0_ := Aside0.mk (below_step HB.out hb); have BK := Aside0.mk hbox; clear HB; have HB := n0_; clear n0_ hb hbox hg))
  refine BelowW.region (by kernel_rfl) (by kernel_rfl) ?_
  have hq0_ : w3.drew.cell? ⟨gb, 0, none⟩ = some (.int .i64 s) := (blk_cell BK.out 0).trans rfl
  have hq1_ : w3.drew.cell? ⟨gb, 1, none⟩ = some (.int .i64 a) := (blk_cell BK.out 1).trans rfl
  have hq2_ : w3.drew.cell? ⟨gb, 2, none⟩ = some (.int .i64 o) := (blk_cell BK.out 2).trans rfl
  have hq3_ : w3.drew.cell? ⟨gp, 0, none⟩ = some (.int .i64 p) := (HB.out.cell (World.block_lt_of_cell? w _ HC.out)).trans HC.out
  have hq4_ : w3.drew.cell? ⟨ga, 0, none⟩ = some (.int .i64 k) := (HB.out.cell (World.block_lt_of_cell? w _ HL.out)).trans HL.out
  have n0_ := Aside0.mk (below_drew1 HB.out)
  clear HB BK
  generalize w3.drew = w4 at hq0_ hq1_ hq2_ hq3_ hq4_ n0_ ⊢
  replace hq0_ := BelowW.at hq0_
  replace hq1_ := BelowW.at hq1_
  replace hq2_ := BelowW.at hq2_
  replace hq3_ := BelowW.at hq3_
  replace hq4_ := BelowW.at hq4_
  change wpQuiet _ _ _ _ (List.cons _ _) _
  repeat (go_big_quiet_step (first | (go_at_call 105; (with_reducible refine (impl_Note_pitch.calls s a o y _ HP.out).mono ?_); exact fun _ _ h_ => ⟨h_.1, BelowW.step _ h_.2⟩) | (go_at_call 75; (with_reducible refine (impl_IsInKey.calls _ k s a o _ _ HK.out).mono ?_); exact fun _ _ h_ => ⟨h_.1, BelowW.step _ h_.2⟩)))
  refine wpQuiet_nil ?_
  intro w5 hb
  have HB := Aside0.mk (below_step n0_.out hb)
  clear n0_ hb hq0_ hq1_ hq2_ hq3_ hq4_
  go_wp2
  go_ret
  exact ⟨by rw [hc1]; rfl, HB.out⟩
def spellI (k p : Int) : NoteR := if (octI (qkI p k) 9 0).2.2.2 = true then octI (qkI p k) 9 0 else ssI p 2 0
def impl_SpellIn.f (a0 : Int) (a1 : Int) : Option (Int × Int × Int × Bool) := if -7 ≤ a0 ∧ a0 ≤ 7 then (if 12 ≤ a1 ∧ a1 ≤ 119 then some (spellI a0 a1) else some (0, 0, 0, false)) else some (0, 0, 0, false)
set_option maxHeartbeats 8000000 in
set_option maxRecDepth 100000 in
theorem impl_SpellIn.calls (a0 : Int) (a1 : Int) (r1 : Int) (r2 : Int) (r3 : Int) (r4 : Bool) (w : World) (h : impl_SpellIn.f a0 a1 = some (r1, r2, r3, r4)) :
  Calls Try.prog 52 #[.int .i64 a0, .int .i64 a1] w fun e w' => e = .returned (.tuple #[.agg #[.int .i64 r1, .int .i64 r2, .int .i64 r3], .bool r4]) ∧ Below w.heap.size w w' := by
 have hu64 := Try.underlying64
 have eg : ∀ args w, (callFunc 104 args).run Try.prog w = .ok (.enter 104 args) w := enters_of Try.func104 (by kernel_rfl) rfl
 have EG := Aside0.mk eg
 clear eg
 have HB := Aside0.mk (Below.refl w.heap.size w)
 have HI := Aside0.mk (InR_ok a1 12 119)
 have HK := Aside0.mk (isKey_ok a0)
 unfold impl_SpellIn.f at h
 by_cases c : -7 ≤ a0 ∧ a0 ≤ 7
 ·
  rw [if_pos c] at h
  rw [decide_eq_true c] at HK
  by_cases c2 : 12 ≤ a1 ∧ a1 ≤ 119
  ·
   rw [if_pos c2] at h
   rw [decide_eq_true c2] at HI
   have hss : impl_SpellSharp.f a1 = some (ssI a1 2 0) := if_pos c2
   rcases hY : ssI a1 2 0 with ⟨y1, y2, y3, y4⟩
   rw [hY] at hss
   have HS := Aside0.mk hss
   rcases hX : octI (qkI a1 a0) 9 0 with ⟨x1, x2, x3, x4⟩
   have HX := Aside0.mk hX
   have h2 := Option.some.inj h
   simp only [spellI, hX, hY] at h2
   have HR := Aside0.mk h2
   clear h h2 c c2 hX hY hss
   cases x4
   ·
    have hR := HR.out
    simp only [Bool.false_eq_true, if_false, Prod.mk.injEq] at hR
    obtain ⟨rfl, rfl, rfl, rfl⟩ := hR
    go_enter Try.func52, Try.ntmps52
    go_wp2_with (first
     | ((with_reducible refine gate_dst (N := 2) rfl ?_); refine box_event ?hg (N := 2) ?hd (cs := #[.int .i64 a0]) (t := 3) ?hr ?_; (case hd => rfl); (case hg => rfl); (case hr => first | (go_simp; done) | (go_simp; rfl)); intro gk hg w3 hbox hb; have GTBK0 := Aside0.mk (by rw [hg]; exact below_size HB.out : w.heap.size ≤ gk); have n0_ := Aside0.mk (below_step HB.out hb); clear HB ; have HB := n0_; clear n0_; have BK0 := Aside0.mk hbox; clear hbox hb hg)
     | ((with_reducible refine gate_dst (N := 3) rfl ?_); refine box_event ?hg (N := 3) ?hd (cs := #[.int .i64 a1]) (t := 3) ?hr ?_; (case hd => rfl); (case hg => rfl); (case hr => first | (go_simp; done) | (go_simp; rfl)); intro gp hg w4 hbox hb; have GTBP := Aside0.mk (by rw [hg]; exact below_size HB.out : w.heap.size ≤ gp); have NBK0BP := Aside0.mk (by rw [hg]; exact Nat.ne_of_lt (blk_lt BK0.out) : gk ≠ gp); have n0_ := Aside0.mk (below_step HB.out hb); have n1_ := Aside0.mk (blk_below BK0.out hb); clear HB BK0; have HB := n0_; have BK0 := n1_; clear n0_ n1_; have BP := Aside0.mk hbox; clear hbox hb hg)
     | ((with_reducible refine gate_dst (N := 4) rfl ?_); refine box_event ?hg (N := 4) ?hd (cs := #[.int .i64 0, .int .i64 0, .int .i64 0]) (t := 64) ?hr ?_; (case hd => rfl); (case hg => rfl); (case hr => first | (go_simp; done) | (go_simp; rfl)); intro gb hg w5 hbox hb; have GTBK := Aside0.mk (by rw [hg]; exact below_size HB.out : w.heap.size ≤ gb); have NBPBK := Aside0.mk (by rw [hg]; exact Nat.ne_of_lt (blk_lt BP.out) : gp ≠ gb); have NBK0BK := Aside0.mk (by rw [hg]; exact Nat.ne_of_lt (blk_lt BK0.out) : gk ≠ gb); have n0_ := Aside0.mk (below_step HB.out hb); have n1_ := Aside0.mk (blk_below BK0.out hb); have n2_ := Aside0.mk (blk_below BP.out hb); clear HB BK0 BP; have HB := n0_; have BK0 := n1_; have BP := n2_; clear n0_ n1_ n2_; have BK := Aside0.mk hbox; clear hbox hb hg; have hcp : w5.cell? ⟨gp, 0, none⟩ = some (.int .i64 a1) := (blk_cell BP.out 0).trans rfl; have hck : w5.cell? ⟨gk, 0, none⟩ = some (.int .i64 a0) := (blk_cell BK0.out 0).trans rfl)
     | (go_at_call 79; (with_reducible refine (impl_IsKey.calls a0 true _ HK.out).mono ?_); rintro e w' ⟨rfl, ⟨nd, rfl⟩⟩; have hb := pw_below_drewN (Below.refl w5.heap.size w5) nd; have n0_ := Aside0.mk (below_step HB.out hb); have n1_ := Aside0.mk (blk_below BK0.out hb); have n2_ := Aside0.mk (blk_below BP.out hb); have n3_ := Aside0.mk (blk_below BK.out hb); clear HB BK0 BP BK; have HB := n0_; have BK0 := n1_; have BP := n2_; have BK := n3_; clear n0_ n1_ n2_ n3_; generalize w5.drewN nd = w6 at *; clear hb hcp hck; have hcp : w6.cell? ⟨gp, 0, none⟩ = some (.int .i64 a1) := (blk_cell BP.out 0).trans rfl; have hck : w6.cell? ⟨gk, 0, none⟩ = some (.int .i64 a0) := (blk_cell BK0.out 0).trans rfl)
     | (go_at_call 82; (with_reducible refine (impl_InRange.calls a1 12 119 true _ HI.out).mono ?_); rintro e w' ⟨rfl, ⟨nd, rfl⟩⟩; have hb := pw_below_drewN (Below.refl w6.heap.size w6) nd; have n0_ := Aside0.mk (below_step HB.out hb); have n1_ := Aside0.mk (blk_below BK0.out hb); have n2_ := Aside0.mk (blk_below BP.out hb); have n3_ := Aside0.mk (blk_below BK.out hb); clear HB BK0 BP BK; have HB := n0_; have BK0 := n1_; have BP := n2_; have BK := n3_; clear n0_ n1_ n2_ n3_; generalize w6.drewN nd = w7 at *; clear hb hcp hck; have hcp : w7.cell? ⟨gp, 0, none⟩ = some (.int .i64 a1) := (blk_cell BP.out 0).trans rfl; have hck : w7.cell? ⟨gk, 0, none⟩ = some (.int .i64 a0) := (blk_cell BK0.out 0).trans rfl)
     | (go_at_call 103; refine (notes_calls 104 (.pointer (some ⟨gp, 0, none⟩)) (.pointer (some ⟨gk, 0, none⟩)) (qkI a1 a0) x1 x2 x3 false w7 EG.out ⟨fun s a o W hi hb => sk_pred a1 a0 gp gk s a o W (isNoteI_b hi).1 (isNoteI_b hi).2.1 (isNoteI_b hi).2.2 ((blk_cell (blk_below BP.out hb) 0).trans rfl) ((blk_cell (blk_below BK0.out hb) 0).trans rfl)⟩ HX.out).mono ?_; rintro e w8 ⟨rfl, hb⟩; have n0_ := Aside0.mk (below_step HB.out hb); have n1_ := Aside0.mk (blk_below BK0.out hb); have n2_ := Aside0.mk (blk_below BP.out hb); have n3_ := Aside0.mk (blk_below BK.out hb); clear HB BK0 BP BK; have HB := n0_; have BK0 := n1_; have BP := n2_; have BK := n3_; clear n0_ n1_ n2_ n3_; clear hb hcp hck; have hcp : w8.cell? ⟨gp, 0, none⟩ = some (.int .i64 a1) := (blk_cell BP.out 0).trans rfl)
     | ((with_reducible refine gate_dst (N := 6) rfl ?_); refine box_event ?hg (N := 6) ?hd (cs := #[.int .i64 0, .int .i64 0, .int .i64 0]) (t := 64) ?hr ?_; (case hd => rfl); (case hg => rfl); (case hr => first | (go_simp; done) | (go_simp; rfl)); intro gx hg w9 hbox hb; have GTBX := Aside0.mk (by rw [hg]; exact below_size HB.out : w.heap.size ≤ gx); have NBK0BX := Aside0.mk (by rw [hg]; exact Nat.ne_of_lt (blk_lt BK0.out) : gk ≠ gx); have NBPBX := Aside0.mk (by rw [hg]; exact Nat.ne_of_lt (blk_lt BP.out) : gp ≠ gx); have NBKBX := Aside0.mk (by rw [hg]; exact Nat.ne_of_lt (blk_lt BK.out) : gb ≠ gx); have n0_ := Aside0.mk (below_step HB.out hb); have n1_ := Aside0.mk (blk_below BK0.out hb); have n2_ := Aside0.mk (blk_below BP.out hb); have n3_ := Aside0.mk (blk_below BK.out hb); clear HB BK0 BP BK; have HB := n0_; have BK0 := n1_; have BP := n2_; have BK := n3_; clear n0_ n1_ n2_ n3_; have BX := Aside0.mk hbox; clear hbox hb hg; have hcBX0 : w9.cell? ⟨gx, 0, none⟩ = some (.int .i64 0) := (blk_cell BX.out 0).trans rfl; have hcBX1 : w9.cell? ⟨gx, 1, none⟩ = some (.int .i64 0) := (blk_cell BX.out 1).trans rfl; have hcBX2 : w9.cell? ⟨gx, 2, none⟩ = some (.int .i64 0) := (blk_cell BX.out 2).trans rfl; have hfBX0 := blk_frozen BX.out 0; have hfBX1 := blk_frozen BX.out 1; have hfBX2 := blk_frozen BX.out 2)
     | ((with_reducible refine gate_store (t := 64) (p := 6) rfl ?_); refine store_event (t := 64) (p := 6) (v := ?vo) (w1 := set3 w9 gx (.int .i64 x1) (.int .i64 x2) (.int .i64 x3)) ?hg ?ho ?hn ?hr ?_; (case ho => rfl); (case hg => rfl); (case hn => rfl); (case hr => unfold set3; first | (go_simp; done) | (go_simp; rfl)); intro w10 hw; have n0_ : Aside0 (Below w.heap.size w w10) := ⟨by rw [hw]; exact set3_below HB.out GTBX.out⟩; have m0_ := Aside0.mk (set3_blk (x := .int .i64 x1) (y := .int .i64 x2) (z := .int .i64 x3) BX.out); have m1_ := Aside0.mk (set3_far (x := .int .i64 x1) (y := .int .i64 x2) (z := .int .i64 x3) BK0.out NBK0BX.out); have m2_ := Aside0.mk (set3_far (x := .int .i64 x1) (y := .int .i64 x2) (z := .int .i64 x3) BP.out NBPBX.out); have m3_ := Aside0.mk (set3_far (x := .int .i64 x1) (y := .int .i64 x2) (z := .int .i64 x3) BK.out NBKBX.out); rw [← hw] at m0_ m1_ m2_ m3_; clear hcBX0 hcBX1 hcBX2 hfBX0 hfBX1 hfBX2; clear hw HB BX BK0 BP BK; have HB := n0_; have BX := m0_; have BK0 := m1_; have BP := m2_; have BK := m3_; clear n0_ m0_ m1_ m2_ m3_; have hcp : w10.cell? ⟨gp, 0, none⟩ = some (.int .i64 a1) := (blk_cell BP.out 0).trans rfl)
     | (go_at_call 106; (with_reducible refine (impl_SpellSharp.calls a1 y1 y2 y3 y4 _ HS.out).mono ?_); rintro e w11 ⟨rfl, hb⟩; have n0_ := Aside0.mk (below_step HB.out hb); have n1_ := Aside0.mk (blk_below BK0.out hb); have n2_ := Aside0.mk (blk_below BP.out hb); have n3_ := Aside0.mk (blk_below BK.out hb); clear HB BK0 BP BK; have HB := n0_; have BK0 := n1_; have BP := n2_; have BK := n3_; clear n0_ n1_ n2_ n3_; clear hb; have hcBK0 : w11.cell? ⟨gb, 0, none⟩ = some (.int .i64 0) := (blk_cell BK.out 0).trans rfl; have hcBK1 : w11.cell? ⟨gb, 1, none⟩ = some (.int .i64 0) := (blk_cell BK.out 1).trans rfl; have hcBK2 : w11.cell? ⟨gb, 2, none⟩ = some (.int .i64 0) := (blk_cell BK.out 2).trans rfl; have hfBK0 := blk_frozen BK.out 0; have hfBK1 := blk_frozen BK.out 1; have hfBK2 := blk_frozen BK.out 2))
    refine bodyPost_ret (results_ct rfl _ _ gb 64 #[.int .i64 y1, .int .i64 y2, .int .i64 y3] (0, 0) _ rfl (set3_blk BK.out) hu64 rfl (by kernel_rfl)) rfl ?_
    exact ⟨rfl, set3_below HB.out GTBK.out⟩
   ·
    have hR := HR.out
    simp only [if_true, Prod.mk.injEq] at hR
    obtain ⟨rfl, rfl, rfl, rfl⟩ := hR
    go_enter Try.func52, Try.ntmps52
    go_wp2_with (first
     | ((with_reducible refine gate_dst (N := 2) rfl ?_); refine box_event ?hg (N := 2) ?hd (cs := #[.int .i64 a0]) (t := 3) ?hr ?_; (case hd => rfl); (case hg => rfl); (case hr => first | (go_simp; done) | (go_simp; rfl)); intro gk hg w3 hbox hb; have GTBK0 := Aside0.mk (by rw [hg]; exact below_size HB.out : w.heap.size ≤ gk); have n0_ := Aside0.mk (below_step HB.out hb); clear HB ; have HB := n0_; clear n0_; have BK0 := Aside0.mk hbox; clear hbox hb hg)
     | ((with_reducible refine gate_dst (N := 3) rfl ?_); refine box_event ?hg (N := 3) ?hd (cs := #[.int .i64 a1]) (t := 3) ?hr ?_; (case hd => rfl); (case hg => rfl); (case hr => first | (go_simp; done) | (go_simp; rfl)); intro gp hg w4 hbox hb; have GTBP := Aside0.mk (by rw [hg]; exact below_size HB.out : w.heap.size ≤ gp); have NBK0BP := Aside0.mk (by rw [hg]; exact Nat.ne_of_lt (blk_lt BK0.out) : gk ≠ gp); have n0_ := Aside0.mk (below_step HB.out hb); have n1_ := Aside0.mk (blk_below BK0.out hb); clear HB BK0; have HB := n0_; have BK0 := n1_; clear n0_ n1_; have BP := Aside0.mk hbox; clear hbox hb hg)
     | ((with_reducible refine gate_dst (N := 4) rfl ?_); refine box_event ?hg (N := 4) ?hd (cs := #[.int .i64 0, .int .i64 0, .int .i64 0]) (t := 64) ?hr ?_; (case hd => rfl); (case hg => rfl); (case hr => first | (go_simp; done) | (go_simp; rfl)); intro gb hg w5 hbox hb; have GTBK := Aside0.mk (by rw [hg]; exact below_size HB.out : w.heap.size ≤ gb); have NBPBK := Aside0.mk (by rw [hg]; exact Nat.ne_of_lt (blk_lt BP.out) : gp ≠ gb); have NBK0BK := Aside0.mk (by rw [hg]; exact Nat.ne_of_lt (blk_lt BK0.out) : gk ≠ gb); have n0_ := Aside0.mk (below_step HB.out hb); have n1_ := Aside0.mk (blk_below BK0.out hb); have n2_ := Aside0.mk (blk_below BP.out hb); clear HB BK0 BP; have HB := n0_; have BK0 := n1_; have BP := n2_; clear n0_ n1_ n2_; have BK := Aside0.mk hbox; clear hbox hb hg; have hcp : w5.cell? ⟨gp, 0, none⟩ = some (.int .i64 a1) := (blk_cell BP.out 0).trans rfl; have hck : w5.cell? ⟨gk, 0, none⟩ = some (.int .i64 a0) := (blk_cell BK0.out 0).trans rfl)
     | (go_at_call 79; (with_reducible refine (impl_IsKey.calls a0 true _ HK.out).mono ?_); rintro e w' ⟨rfl, ⟨nd, rfl⟩⟩; have hb := pw_below_drewN (Below.refl w5.heap.size w5) nd; have n0_ := Aside0.mk (below_step HB.out hb); have n1_ := Aside0.mk (blk_below BK0.out hb); have n2_ := Aside0.mk (blk_below BP.out hb); have n3_ := Aside0.mk (blk_below BK.out hb); clear HB BK0 BP BK; have HB := n0_; have BK0 := n1_; have BP := n2_; have BK := n3_; clear n0_ n1_ n2_ n3_; generalize w5.drewN nd = w6 at *; clear hb hcp hck; have hcp : w6.cell? ⟨gp, 0, none⟩ = some (.int .i64 a1) := (blk_cell BP.out 0).trans rfl; have hck : w6.cell? ⟨gk, 0, none⟩ = some (.int .i64 a0) := (blk_cell BK0.out 0).trans rfl)
     | (go_at_call 82; (with_reducible refine (impl_InRange.calls a1 12 119 true _ HI.out).mono ?_); rintro e w' ⟨rfl, ⟨nd, rfl⟩⟩; have hb := pw_below_drewN (Below.refl w6.heap.size w6) nd; have n0_ := Aside0.mk (below_step HB.out hb); have n1_ := Aside0.mk (blk_below BK0.out hb); have n2_ := Aside0.mk (blk_below BP.out hb); have n3_ := Aside0.mk (blk_below BK.out hb); clear HB BK0 BP BK; have HB := n0_; have BK0 := n1_; have BP := n2_; have BK := n3_; clear n0_ n1_ n2_ n3_; generalize w6.drewN nd = w7 at *; clear hb hcp hck; have hcp : w7.cell? ⟨gp, 0, none⟩ = some (.int .i64 a1) := (blk_cell BP.out 0).trans rfl; have hck : w7.cell? ⟨gk, 0, none⟩ = some (.int .i64 a0) := (blk_cell BK0.out 0).trans rfl)
     | (go_at_call 103; refine (notes_calls 104 (.pointer (some ⟨gp, 0, none⟩)) (.pointer (some ⟨gk, 0, none⟩)) (qkI a1 a0) x1 x2 x3 true w7 EG.out ⟨fun s a o W hi hb => sk_pred a1 a0 gp gk s a o W (isNoteI_b hi).1 (isNoteI_b hi).2.1 (isNoteI_b hi).2.2 ((blk_cell (blk_below BP.out hb) 0).trans rfl) ((blk_cell (blk_below BK0.out hb) 0).trans rfl)⟩ HX.out).mono ?_; rintro e w8 ⟨rfl, hb⟩; have n0_ := Aside0.mk (below_step HB.out hb); have n1_ := Aside0.mk (blk_below BK0.out hb); have n2_ := Aside0.mk (blk_below BP.out hb); have n3_ := Aside0.mk (blk_below BK.out hb); clear HB BK0 BP BK; have HB := n0_; have BK0 := n1_; have BP := n2_; have BK := n3_; clear n0_ n1_ n2_ n3_; clear hb hcp hck; have hcp : w8.cell? ⟨gp, 0, none⟩ = some (.int .i64 a1) := (blk_cell BP.out 0).trans rfl)
     | ((with_reducible refine gate_dst (N := 6) rfl ?_); refine box_event ?hg (N := 6) ?hd (cs := #[.int .i64 0, .int .i64 0, .int .i64 0]) (t := 64) ?hr ?_; (case hd => rfl); (case hg => rfl); (case hr => first | (go_simp; done) | (go_simp; rfl)); intro gx hg w9 hbox hb; have GTBX := Aside0.mk (by rw [hg]; exact below_size HB.out : w.heap.size ≤ gx); have NBK0BX := Aside0.mk (by rw [hg]; exact Nat.ne_of_lt (blk_lt BK0.out) : gk ≠ gx); have NBPBX := Aside0.mk (by rw [hg]; exact Nat.ne_of_lt (blk_lt BP.out) : gp ≠ gx); have NBKBX := Aside0.mk (by rw [hg]; exact Nat.ne_of_lt (blk_lt BK.out) : gb ≠ gx); have n0_ := Aside0.mk (below_step HB.out hb); have n1_ := Aside0.mk (blk_below BK0.out hb); have n2_ := Aside0.mk (blk_below BP.out hb); have n3_ := Aside0.mk (blk_below BK.out hb); clear HB BK0 BP BK; have HB := n0_; have BK0 := n1_; have BP := n2_; have BK := n3_; clear n0_ n1_ n2_ n3_; have BX := Aside0.mk hbox; clear hbox hb hg; have hcBX0 : w9.cell? ⟨gx, 0, none⟩ = some (.int .i64 0) := (blk_cell BX.out 0).trans rfl; have hcBX1 : w9.cell? ⟨gx, 1, none⟩ = some (.int .i64 0) := (blk_cell BX.out 1).trans rfl; have hcBX2 : w9.cell? ⟨gx, 2, none⟩ = some (.int .i64 0) := (blk_cell BX.out 2).trans rfl; have hfBX0 := blk_frozen BX.out 0; have hfBX1 := blk_frozen BX.out 1; have hfBX2 := blk_frozen BX.out 2)
     | ((with_reducible refine gate_store (t := 64) (p := 6) rfl ?_); refine store_event (t := 64) (p := 6) (v := ?vo) (w1 := set3 w9 gx (.int .i64 x1) (.int .i64 x2) (.int .i64 x3)) ?hg ?ho ?hn ?hr ?_; (case ho => rfl); (case hg => rfl); (case hn => rfl); (case hr => unfold set3; first | (go_simp; done) | (go_simp; rfl)); intro w10 hw; have n0_ : Aside0 (Below w.heap.size w w10) := ⟨by rw [hw]; exact set3_below HB.out GTBX.out⟩; have m0_ := Aside0.mk (set3_blk (x := .int .i64 x1) (y := .int .i64 x2) (z := .int .i64 x3) BX.out); have m1_ := Aside0.mk (set3_far (x := .int .i64 x1) (y := .int .i64 x2) (z := .int .i64 x3) BK0.out NBK0BX.out); have m2_ := Aside0.mk (set3_far (x := .int .i64 x1) (y := .int .i64 x2) (z := .int .i64 x3) BP.out NBPBX.out); have m3_ := Aside0.mk (set3_far (x := .int .i64 x1) (y := .int .i64 x2) (z := .int .i64 x3) BK.out NBKBX.out); rw [← hw] at m0_ m1_ m2_ m3_; clear hcBX0 hcBX1 hcBX2 hfBX0 hfBX1 hfBX2; clear hw HB BX BK0 BP BK; have HB := n0_; have BX := m0_; have BK0 := m1_; have BP := m2_; have BK := m3_; clear n0_ m0_ m1_ m2_ m3_; have hnx := NBKBX.out; have hcBK0 : w10.cell? ⟨gb, 0, none⟩ = some (.int .i64 0) := (blk_cell BK.out 0).trans rfl; have hcBK1 : w10.cell? ⟨gb, 1, none⟩ = some (.int .i64 0) := (blk_cell BK.out 1).trans rfl; have hcBK2 : w10.cell? ⟨gb, 2, none⟩ = some (.int .i64 0) := (blk_cell BK.out 2).trans rfl; have hfBK0 := blk_frozen BK.out 0; have hfBK1 := blk_frozen BK.out 1; have hfBK2 := blk_frozen BK.out 2; have hcBX0 : w10.cell? ⟨gx, 0, none⟩ = some (.int .i64 x1) := (blk_cell BX.out 0).trans rfl; have hcBX1 : w10.cell? ⟨gx, 1, none⟩ = some (.int .i64 x2) := (blk_cell BX.out 1).trans rfl; have hcBX2 : w10.cell? ⟨gx, 2, none⟩ = some (.int .i64 x3) := (blk_cell BX.out 2).trans rfl))
    refine bodyPost_ret (results_ct rfl _ _ gb 64 #[.int .i64 x1, .int .i64 x2, .int .i64 x3] (0, 0) _ rfl (set3_blk BK.out) hu64 rfl (by kernel_rfl)) rfl ?_
    exact ⟨rfl, set3_below HB.out GTBK.out⟩
  ·
   rw [if_neg c2] at h
   rw [decide_eq_false c2] at HI
   have h2 := Option.some.inj h
   simp only [Prod.mk.injEq] at h2
   obtain ⟨rfl, rfl, rfl, rfl⟩ := h2
   clear h c c2
   go_enter Try.func52, Try.ntmps52
   go_wp2_with (first
    | ((with_reducible refine gate_dst (N := 2) rfl ?_); refine box_event ?hg (N := 2) ?hd (cs := #[.int .i64 a0]) (t := 3) ?hr ?_; (case hd => rfl); (case hg => rfl); (case hr => first | (go_simp; done) | (go_simp; rfl)); intro gk hg w3 hbox hb; have GTBK0 := Aside0.mk (by rw [hg]; exact below_size HB.out : w.heap.size ≤ gk); have n0_ := Aside0.mk (below_step HB.out hb); clear HB ; have HB := n0_; clear n0_; have BK0 := Aside0.mk hbox; clear hbox hb hg)
    | ((with_reducible refine gate_dst (N := 3) rfl ?_); refine box_event ?hg (N := 3) ?hd (cs := #[.int .i64 a1]) (t := 3) ?hr ?_; (case hd => rfl); (case hg => rfl); (case hr => first | (go_simp; done) | (go_simp; rfl)); intro gp hg w4 hbox hb; have GTBP := Aside0.mk (by rw [hg]; exact below_size HB.out : w.heap.size ≤ gp); have NBK0BP := Aside0.mk (by rw [hg]; exact Nat.ne_of_lt (blk_lt BK0.out) : gk ≠ gp); have n0_ := Aside0.mk (below_step HB.out hb); have n1_ := Aside0.mk (blk_below BK0.out hb); clear HB BK0; have HB := n0_; have BK0 := n1_; clear n0_ n1_; have BP := Aside0.mk hbox; clear hbox hb hg)
    | ((with_reducible refine gate_dst (N := 4) rfl ?_); refine box_event ?hg (N := 4) ?hd (cs := #[.int .i64 0, .int .i64 0, .int .i64 0]) (t := 64) ?hr ?_; (case hd => rfl); (case hg => rfl); (case hr => first | (go_simp; done) | (go_simp; rfl)); intro gb hg w5 hbox hb; have GTBK := Aside0.mk (by rw [hg]; exact below_size HB.out : w.heap.size ≤ gb); have NBPBK := Aside0.mk (by rw [hg]; exact Nat.ne_of_lt (blk_lt BP.out) : gp ≠ gb); have NBK0BK := Aside0.mk (by rw [hg]; exact Nat.ne_of_lt (blk_lt BK0.out) : gk ≠ gb); have n0_ := Aside0.mk (below_step HB.out hb); have n1_ := Aside0.mk (blk_below BK0.out hb); have n2_ := Aside0.mk (blk_below BP.out hb); clear HB BK0 BP; have HB := n0_; have BK0 := n1_; have BP := n2_; clear n0_ n1_ n2_; have BK := Aside0.mk hbox; clear hbox hb hg; have hcp : w5.cell? ⟨gp, 0, none⟩ = some (.int .i64 a1) := (blk_cell BP.out 0).trans rfl; have hck : w5.cell? ⟨gk, 0, none⟩ = some (.int .i64 a0) := (blk_cell BK0.out 0).trans rfl)
    | (go_at_call 79; (with_reducible refine (impl_IsKey.calls a0 true _ HK.out).mono ?_); rintro e w' ⟨rfl, ⟨nd, rfl⟩⟩; have hb := pw_below_drewN (Below.refl w5.heap.size w5) nd; have n0_ := Aside0.mk (below_step HB.out hb); have n1_ := Aside0.mk (blk_below BK0.out hb); have n2_ := Aside0.mk (blk_below BP.out hb); have n3_ := Aside0.mk (blk_below BK.out hb); clear HB BK0 BP BK; have HB := n0_; have BK0 := n1_; have BP := n2_; have BK := n3_; clear n0_ n1_ n2_ n3_; generalize w5.drewN nd = w6 at *; clear hb hcp hck; have hcp : w6.cell? ⟨gp, 0, none⟩ = some (.int .i64 a1) := (blk_cell BP.out 0).trans rfl; have hck : w6.cell? ⟨gk, 0, none⟩ = some (.int .i64 a0) := (blk_cell BK0.out 0).trans rfl)
    | (go_at_call 82; (with_reducible refine (impl_InRange.calls a1 12 119 false _ HI.out).mono ?_); rintro e w' ⟨rfl, ⟨nd, rfl⟩⟩; have hb := pw_below_drewN (Below.refl w6.heap.size w6) nd; have n0_ := Aside0.mk (below_step HB.out hb); have n1_ := Aside0.mk (blk_below BK0.out hb); have n2_ := Aside0.mk (blk_below BP.out hb); have n3_ := Aside0.mk (blk_below BK.out hb); clear HB BK0 BP BK; have HB := n0_; have BK0 := n1_; have BP := n2_; have BK := n3_; clear n0_ n1_ n2_ n3_; generalize w6.drewN nd = w7 at *; clear hb hcp hck; have hcp : w7.cell? ⟨gp, 0, none⟩ = some (.int .i64 a1) := (blk_cell BP.out 0).trans rfl; have hck : w7.cell? ⟨gk, 0, none⟩ = some (.int .i64 a0) := (blk_cell BK0.out 0).trans rfl; have hcBK0 : w7.cell? ⟨gb, 0, none⟩ = some (.int .i64 0) := (blk_cell BK.out 0).trans rfl; have hcBK1 : w7.cell? ⟨gb, 1, none⟩ = some (.int .i64 0) := (blk_cell BK.out 1).trans rfl; have hcBK2 : w7.cell? ⟨gb, 2, none⟩ = some (.int .i64 0) := (blk_cell BK.out 2).trans rfl; have hfBK0 := blk_frozen BK.out 0; have hfBK1 := blk_frozen BK.out 1; have hfBK2 := blk_frozen BK.out 2))
   refine bodyPost_ret (results_ct rfl _ _ gb 64 #[.int .i64 0, .int .i64 0, .int .i64 0] (0, 0) _ rfl (set3_blk BK.out) hu64 rfl (by kernel_rfl)) rfl ?_
   exact ⟨rfl, set3_below HB.out GTBK.out⟩
 ·
  rw [if_neg c] at h
  rw [decide_eq_false c] at HK
  have h2 := Option.some.inj h
  simp only [Prod.mk.injEq] at h2
  obtain ⟨rfl, rfl, rfl, rfl⟩ := h2
  clear h c
  go_enter Try.func52, Try.ntmps52
  go_wp2_with (first
   | ((with_reducible refine gate_dst (N := 2) rfl ?_); refine box_event ?hg (N := 2) ?hd (cs := #[.int .i64 a0]) (t := 3) ?hr ?_; (case hd => rfl); (case hg => rfl); (case hr => first | (go_simp; done) | (go_simp; rfl)); intro gk hg w3 hbox hb; have GTBK0 := Aside0.mk (by rw [hg]; exact below_size HB.out : w.heap.size ≤ gk); have n0_ := Aside0.mk (below_step HB.out hb); clear HB ; have HB := n0_; clear n0_; have BK0 := Aside0.mk hbox; clear hbox hb hg)
     | ((with_reducible refine gate_dst (N := 3) rfl ?_); refine box_event ?hg (N := 3) ?hd (cs := #[.int .i64 a1]) (t := 3) ?hr ?_; (case hd => rfl); (case hg => rfl); (case hr => first | (go_simp; done) | (go_simp; rfl)); intro gp hg w4 hbox hb; have GTBP := Aside0.mk (by rw [hg]; exact below_size HB.out : w.heap.size ≤ gp); have NBK0BP := Aside0.mk (by rw [hg]; exact Nat.ne_of_lt (blk_lt BK0.out) : gk ≠ gp); have n0_ := Aside0.mk (below_step HB.out hb); have n1_ := Aside0.mk (blk_below BK0.out hb); clear HB BK0; have HB := n0_; have BK0 := n1_; clear n0_ n1_; have BP := Aside0.mk hbox; clear hbox hb hg)
     | ((with_reducible refine gate_dst (N := 4) rfl ?_); refine box_event ?hg (N := 4) ?hd (cs := #[.int .i64 0, .int .i64 0, .int .i64 0]) (t := 64) ?hr ?_; (case hd => rfl); (case hg => rfl); (case hr => first | (go_simp; done) | (go_simp; rfl)); intro gb hg w5 hbox hb; have GTBK := Aside0.mk (by rw [hg]; exact below_size HB.out : w.heap.size ≤ gb); have NBPBK := Aside0.mk (by rw [hg]; exact Nat.ne_of_lt (blk_lt BP.out) : gp ≠ gb); have NBK0BK := Aside0.mk (by rw [hg]; exact Nat.ne_of_lt (blk_lt BK0.out) : gk ≠ gb); have n0_ := Aside0.mk (below_step HB.out hb); have n1_ := Aside0.mk (blk_below BK0.out hb); have n2_ := Aside0.mk (blk_below BP.out hb); clear HB BK0 BP; have HB := n0_; have BK0 := n1_; have BP := n2_; clear n0_ n1_ n2_; have BK := Aside0.mk hbox; clear hbox hb hg; have hcp : w5.cell? ⟨gp, 0, none⟩ = some (.int .i64 a1) := (blk_cell BP.out 0).trans rfl; have hck : w5.cell? ⟨gk, 0, none⟩ = some (.int .i64 a0) := (blk_cell BK0.out 0).trans rfl)
   | (go_at_call 79; (with_reducible refine (impl_IsKey.calls a0 false _ HK.out).mono ?_); rintro e w' ⟨rfl, ⟨nd, rfl⟩⟩; have hb := pw_below_drewN (Below.refl w5.heap.size w5) nd; have n0_ := Aside0.mk (below_step HB.out hb); have n1_ := Aside0.mk (blk_below BK0.out hb); have n2_ := Aside0.mk (blk_below BP.out hb); have n3_ := Aside0.mk (blk_below BK.out hb); clear HB BK0 BP BK; have HB := n0_; have BK0 := n1_; have BP := n2_; have BK := n3_; clear n0_ n1_ n2_ n3_; generalize w5.drewN nd = w6 at *; clear hb hcp hck; have hcp : w6.cell? ⟨gp, 0, none⟩ = some (.int .i64 a1) := (blk_cell BP.out 0).trans rfl; have hck : w6.cell? ⟨gk, 0, none⟩ = some (.int .i64 a0) := (blk_cell BK0.out 0).trans rfl; have hcBK0 : w6.cell? ⟨gb, 0, none⟩ = some (.int .i64 0) := (blk_cell BK.out 0).trans rfl; have hcBK1 : w6.cell? ⟨gb, 1, none⟩ = some (.int .i64 0) := (blk_cell BK.out 1).trans rfl; have hcBK2 : w6.cell? ⟨gb, 2, none⟩ = some (.int .i64 0) := (blk_cell BK.out 2).trans rfl; have hfBK0 := blk_frozen BK.out 0; have hfBK1 := blk_frozen BK.out 1; have hfBK2 := blk_frozen BK.out 2))
  refine bodyPost_ret (results_ct rfl _ _ gb 64 #[.int .i64 0, .int .i64 0, .int .i64 0] (0, 0) _ rfl (set3_blk BK.out) hu64 rfl (by kernel_rfl)) rfl ?_
  exact ⟨rfl, set3_below HB.out GTBK.out⟩
end Go.Proofs.Ytiophiipmgpaeaa.F

namespace Go.Proofs.Ytiophiipmgpaeaa.F
open Go.RowKit Go.Proofs.YtiophiipmgpaeaaW.PrintWords Go.Proofs.YtiophiipmgpaeaaW.PrintLast Go.Proofs.YtiophiipmgpaeaaW.PrintMore
attribute [local go_sem] max2_int min2_int max_two min_two max_three min_three max_four min_four
set_option linter.unusedVariables false
set_option linter.unusedSimpArgs false
def laws_eqNote.f (a0_0 : Int) (a0_1 : Int) (a0_2 : Int) (a1_0 : Int) (a1_1 : Int) (a1_2 : Int) : Option (Bool) := if a0_0 = a1_0 then (if a0_1 = a1_1 then (if a0_2 = a1_2 then (some true) else (some false)) else (some false)) else (some false)
set_option maxHeartbeats 8000000 in
set_option maxRecDepth 100000 in
theorem laws_eqNote.calls (a0_0 : Int) (a0_1 : Int) (a0_2 : Int) (a1_0 : Int) (a1_1 : Int) (a1_2 : Int) (r : Bool) (w : World) (h : laws_eqNote.f a0_0 a0_1 a0_2 a1_0 a1_1 a1_2 = some r) :
  Calls Try.prog 53 #[.agg #[.int .i64 a0_0, .int .i64 a0_1, .int .i64 a0_2], .agg #[.int .i64 a1_0, .int .i64 a1_1, .int .i64 a1_2]] w fun e w' => e = .returned (.bool r) ∧ Below w.heap.size w w' := by
 have hu64 := Try.underlying64
 have HB := Aside0.mk (Below.refl w.heap.size w)
 have H : (if a0_0 = a1_0 then (if a0_1 = a1_1 then (if a0_2 = a1_2 then (some true) else (some false)) else (some false)) else (some false)) = some r := h
 clear h
 by_cases c3 : a0_0 = a1_0
 ·
  rw [if_pos c3] at H
  have c3b0 : (a0_0 == a1_0) = true := beq_iff_eq.mpr c3
  have c3b1 : (a0_0 != a1_0) = false := bne_eq_false_iff_eq.mpr c3
  clear c3
  by_cases c4 : a0_1 = a1_1
  ·
   rw [if_pos c4] at H
   have c4b0 : (a0_1 == a1_1) = true := beq_iff_eq.mpr c4
   have c4b1 : (a0_1 != a1_1) = false := bne_eq_false_iff_eq.mpr c4
   clear c4
   by_cases c5 : a0_2 = a1_2
   ·
    rw [if_pos c5] at H
    have c5b0 : (a0_2 == a1_2) = true := beq_iff_eq.mpr c5
    have c5b1 : (a0_2 != a1_2) = false := bne_eq_false_iff_eq.mpr c5
    clear c5
    obtain rfl := Option.some.inj H
    go_enter Try.func53, Try.ntmps53
    go_wp2_with (first | ((with_reducible refine gate_dst (N := 2) rfl ?_); refine box_event ?hg (N := 2) ?hd (cs := #[.int .i64 a0_0, .int .i64 a0_1, .int .i64 a0_2]) (t := 64) ?hr ?_; (case hd => rfl); (case hg => rfl); (case hr => first | (go_simp; done) | (go_simp; rfl)); intro gb701 hg w6 hbox hb; have n0_ := Aside0.mk (below_step (by repeat (first | (with_reducible first | exact HB.out | apply below_alloc | apply pw_below_drewN | apply below_drew1) | exact HB.out)) hb); have n1_ := Aside0.mk (hbox); have n2_ := Aside0.mk ((by rw [hg]; exact (below_size (by repeat (first | (with_reducible first | exact HB.out | apply below_alloc | apply pw_below_drewN | apply below_drew1) | exact HB.out))) : w.heap.size ≤ gb701)); have n3_ := Aside0.mk ((by rw [hg]; exact (below_size (by repeat (first | (with_reducible first | exact HB.out | apply below_alloc | apply pw_below_drewN | apply below_drew1) | exact HB.out))) : w.heap.size ≤ gb701)); clear HB; have HB := n0_; have BK701 := n1_; have GW701 := n2_; have GE701 := n3_; clear n0_ n1_ n2_ n3_; clear hb hbox hg) | ((with_reducible refine gate_dst (N := 3) rfl ?_); refine box_event ?hg (N := 3) ?hd (cs := #[.int .i64 a1_0, .int .i64 a1_1, .int .i64 a1_2]) (t := 64) ?hr ?_; (case hd => rfl); (case hg => rfl); (case hr => first | (go_simp; done) | (go_simp; rfl)); intro gb702 hg w7 hbox hb; have n0_ := Aside0.mk (blk_below (g := gb701) (o := .cells #[.int .i64 a0_0, .int .i64 a0_1, .int .i64 a0_2] 64 (0, 0)) (by (with_reducible repeat (first | refine blk_drewN ?_ _ | refine blk_drew ?_ | refine blk_alloc ?_ _)); exact BK701.out) hb); have n1_ := Aside0.mk (below_step (by repeat (first | (with_reducible first | exact HB.out | apply below_alloc | apply pw_below_drewN | apply below_drew1 | refine below_set ?_ GE701.out) | exact HB.out)) hb); have n2_ := Aside0.mk (hbox); have n3_ := Aside0.mk ((by rw [hg]; exact (below_size (by repeat (first | (with_reducible first | exact HB.out | apply below_alloc | apply pw_below_drewN | apply below_drew1 | refine below_set ?_ GE701.out) | exact HB.out))) : w.heap.size ≤ gb702)); have n4_ := Aside0.mk ((by rw [hg]; exact (below_size (by repeat (first | (with_reducible first | exact HB.out | apply below_alloc | apply pw_below_drewN | apply below_drew1 | refine below_set ?_ GE701.out) | exact HB.out))) : w.heap.size ≤ gb702)); have n5_ := Aside0.mk ((by rw [hg]; exact Nat.ne_of_lt (blk_lt (g := gb701) (o := .cells #[.int .i64 a0_0, .int .i64 a0_1, .int .i64 a0_2] 64 (0, 0)) (by (with_reducible repeat (first | refine blk_drewN ?_ _ | refine blk_drew ?_ | refine blk_alloc ?_ _)); exact BK701.out)) : gb701 ≠ gb702)); have n6_ := Aside0.mk ((by rw [hg]; exact Nat.ne_of_gt (blk_lt (g := gb701) (o := .cells #[.int .i64 a0_0, .int .i64 a0_1, .int .i64 a0_2] 64 (0, 0)) (by (with_reducible repeat (first | refine blk_drewN ?_ _ | refine blk_drew ?_ | refine blk_alloc ?_ _)); exact BK701.out)) : gb702 ≠ gb701)); clear BK701; clear HB; have BK701 := n0_; have HB := n1_; have BK702 := n2_; have GW702 := n3_; have GE702 := n4_; have NB701_702 := n5_; have NB702_701 := n6_; clear n0_ n1_ n2_ n3_ n4_ n5_ n6_; clear hb hbox hg; have hnb8 := NB701_702.out; have hnc8 := NB702_701.out; have hcz9_0 : w7.cell? ⟨gb701, 0, none⟩ = some (.int .i64 a0_0) := (blk_cell BK701.out 0).trans rfl; have hcz9_1 : w7.cell? ⟨gb701, 1, none⟩ = some (.int .i64 a0_1) := (blk_cell BK701.out 1).trans rfl; have hcz9_2 : w7.cell? ⟨gb701, 2, none⟩ = some (.int .i64 a0_2) := (blk_cell BK701.out 2).trans rfl; have hfz9_0 := blk_frozen BK701.out 0; have hfz9_1 := blk_frozen BK701.out 1; have hfz9_2 := blk_frozen BK701.out 2; have hcz10_0 : w7.cell? ⟨gb702, 0, none⟩ = some (.int .i64 a1_0) := (blk_cell BK702.out 0).trans rfl; have hcz10_1 : w7.cell? ⟨gb702, 1, none⟩ = some (.int .i64 a1_1) := (blk_cell BK702.out 1).trans rfl; have hcz10_2 : w7.cell? ⟨gb702, 2, none⟩ = some (.int .i64 a1_2) := (blk_cell BK702.out 2).trans rfl; have hfz10_0 := blk_frozen BK702.out 0; have hfz10_1 := blk_frozen BK702.out 1; have hfz10_2 := blk_frozen BK702.out 2))
    go_ret
    exact ⟨by first | rfl | (simp [errW_none, errW_some] <;> rfl) | (simp [*, errW_none, errW_some] <;> rfl), by repeat (first | (with_reducible first | exact HB.out | apply below_alloc | apply pw_below_drewN | apply below_drew1 | refine below_set ?_ GE701.out | refine below_set ?_ GE702.out) | exact HB.out)⟩
   ·
    rw [if_neg c5] at H
    have c5b0 : (a0_2 == a1_2) = false := beq_eq_false_iff_ne.mpr c5
    have c5b1 : (a0_2 != a1_2) = true := bne_iff_ne.mpr c5
    obtain rfl := Option.some.inj H
    go_enter Try.func53, Try.ntmps53
    go_wp2_with (first | ((with_reducible refine gate_dst (N := 2) rfl ?_); refine box_event ?hg (N := 2) ?hd (cs := #[.int .i64 a0_0, .int .i64 a0_1, .int .i64 a0_2]) (t := 64) ?hr ?_; (case hd => rfl); (case hg => rfl); (case hr => first | (go_simp; done) | (go_simp; rfl)); intro gb701 hg w11 hbox hb; have n0_ := Aside0.mk (below_step (by repeat (first | (with_reducible first | exact HB.out | apply below_alloc | apply pw_below_drewN | apply below_drew1) | exact HB.out)) hb); have n1_ := Aside0.mk (hbox); have n2_ := Aside0.mk ((by rw [hg]; exact (below_size (by repeat (first | (with_reducible first | exact HB.out | apply below_alloc | apply pw_below_drewN | apply below_drew1) | exact HB.out))) : w.heap.size ≤ gb701)); have n3_ := Aside0.mk ((by rw [hg]; exact (below_size (by repeat (first | (with_reducible first | exact HB.out | apply below_alloc | apply pw_below_drewN | apply below_drew1) | exact HB.out))) : w.heap.size ≤ gb701)); clear HB; have HB := n0_; have BK701 := n1_; have GW701 := n2_; have GE701 := n3_; clear n0_ n1_ n2_ n3_; clear hb hbox hg) | ((with_reducible refine gate_dst (N := 3) rfl ?_); refine box_event ?hg (N := 3) ?hd (cs := #[.int .i64 a1_0, .int .i64 a1_1, .int .i64 a1_2]) (t := 64) ?hr ?_; (case hd => rfl); (case hg => rfl); (case hr => first | (go_simp; done) | (go_simp; rfl)); intro gb702 hg w12 hbox hb; have n0_ := Aside0.mk (blk_below (g := gb701) (o := .cells #[.int .i64 a0_0, .int .i64 a0_1, .int .i64 a0_2] 64 (0, 0)) (by (with_reducible repeat (first | refine blk_drewN ?_ _ | refine blk_drew ?_ | refine blk_alloc ?_ _)); exact BK701.out) hb); have n1_ := Aside0.mk (below_step (by repeat (first | (with_reducible first | exact HB.out | apply below_alloc | apply pw_below_drewN | apply below_drew1 | refine below_set ?_ GE701.out) | exact HB.out)) hb); have n2_ := Aside0.mk (hbox); have n3_ := Aside0.mk ((by rw [hg]; exact (below_size (by repeat (first | (with_reducible first | exact HB.out | apply below_alloc | apply pw_below_drewN | apply below_drew1 | refine below_set ?_ GE701.out) | exact HB.out))) : w.heap.size ≤ gb702)); have n4_ := Aside0.mk ((by rw [hg]; exact (below_size (by repeat (first | (with_reducible first | exact HB.out | apply below_alloc | apply pw_below_drewN | apply below_drew1 | refine below_set ?_ GE701.out) | exact HB.out))) : w.heap.size ≤ gb702)); have n5_ := Aside0.mk ((by rw [hg]; exact Nat.ne_of_lt (blk_lt (g := gb701) (o := .cells #[.int .i64 a0_0, .int .i64 a0_1, .int .i64 a0_2] 64 (0, 0)) (by (with_reducible repeat (first | refine blk_drewN ?_ _ | refine blk_drew ?_ | refine blk_alloc ?_ _)); exact BK701.out)) : gb701 ≠ gb702)); have n6_ := Aside0.mk ((by rw [hg]; exact Nat.ne_of_gt (blk_lt (g := gb701) (o := .cells #[.int .i64 a0_0, .int .i64 a0_1, .int .i64 a0_2] 64 (0, 0)) (by (with_reducible repeat (first | refine blk_drewN ?_ _ | refine blk_drew ?_ | refine blk_alloc ?_ _)); exact BK701.out)) : gb702 ≠ gb701)); clear BK701; clear HB; have BK701 := n0_; have HB := n1_; have BK702 := n2_; have GW702 := n3_; have GE702 := n4_; have NB701_702 := n5_; have NB702_701 := n6_; clear n0_ n1_ n2_ n3_ n4_ n5_ n6_; clear hb hbox hg; have hnb13 := NB701_702.out; have hnc13 := NB702_701.out; have hcz14_0 : w12.cell? ⟨gb701, 0, none⟩ = some (.int .i64 a0_0) := (blk_cell BK701.out 0).trans rfl; have hcz14_1 : w12.cell? ⟨gb701, 1, none⟩ = some (.int .i64 a0_1) := (blk_cell BK701.out 1).trans rfl; have hcz14_2 : w12.cell? ⟨gb701, 2, none⟩ = some (.int .i64 a0_2) := (blk_cell BK701.out 2).trans rfl; have hfz14_0 := blk_frozen BK701.out 0; have hfz14_1 := blk_frozen BK701.out 1; have hfz14_2 := blk_frozen BK701.out 2; have hcz15_0 : w12.cell? ⟨gb702, 0, none⟩ = some (.int .i64 a1_0) := (blk_cell BK702.out 0).trans rfl; have hcz15_1 : w12.cell? ⟨gb702, 1, none⟩ = some (.int .i64 a1_1) := (blk_cell BK702.out 1).trans rfl; have hcz15_2 : w12.cell? ⟨gb702, 2, none⟩ = some (.int .i64 a1_2) := (blk_cell BK702.out 2).trans rfl; have hfz15_0 := blk_frozen BK702.out 0; have hfz15_1 := blk_frozen BK702.out 1; have hfz15_2 := blk_frozen BK702.out 2))
    go_ret
    exact ⟨by first | rfl | (simp [errW_none, errW_some] <;> rfl) | (simp [*, errW_none, errW_some] <;> rfl), by repeat (first | (with_reducible first | exact HB.out | apply below_alloc | apply pw_below_drewN | apply below_drew1 | refine below_set ?_ GE701.out | refine below_set ?_ GE702.out) | exact HB.out)⟩
  ·
   rw [if_neg c4] at H
   have c4b0 : (a0_1 == a1_1) = false := beq_eq_false_iff_ne.mpr c4
   have c4b1 : (a0_1 != a1_1) = true := bne_iff_ne.mpr c4
   obtain rfl := Option.some.inj H
   go_enter Try.func53, Try.ntmps53
   go_wp2_with (first | ((with_reducible refine gate_dst (N := 2) rfl ?_); refine box_event ?hg (N := 2) ?hd (cs := #[.int .i64 a0_0, .int .i64 a0_1, .int .i64 a0_2]) (t := 64) ?hr ?_; (case hd => rfl); (case hg => rfl); (case hr => first | (go_simp; done) | (go_simp; rfl)); intro gb701 hg w16 hbox hb; have n0_ := Aside0.mk (below_step (by repeat (first | (with_reducible first | exact HB.out | apply below_alloc | apply pw_below_drewN | apply below_drew1) | exact HB.out)) hb); have n1_ := Aside0.mk (hbox); have n2_ := Aside0.mk ((by rw [hg]; exact (below_size (by repeat (first | (with_reducible first | exact HB.out | apply below_alloc | apply pw_below_drewN | apply below_drew1) | exact HB.out))) : w.heap.size ≤ gb701)); have n3_ := Aside0.mk ((by rw [hg]; exact (below_size (by repeat (first | (with_reducible first | exact HB.out | apply below_alloc | apply pw_below_drewN | apply below_drew1) | exact HB.out))) : w.heap.size ≤ gb701)); clear HB; have HB := n0_; have BK701 := n1_; have GW701 := n2_; have GE701 := n3_; clear n0_ n1_ n2_ n3_; clear hb hbox hg) | ((with_reducible refine gate_dst (N := 3) rfl ?_); refine box_event ?hg (N := 3) ?hd (cs := #[.int .i64 a1_0, .int .i64 a1_1, .int .i64 a1_2]) (t := 64) ?hr ?_; (case hd => rfl); (case hg => rfl); (case hr => first | (go_simp; done) | (go_simp; rfl)); intro gb702 hg w17 hbox hb; have n0_ := Aside0.mk (blk_below (g := gb701) (o := .cells #[.int .i64 a0_0, .int .i64 a0_1, .int .i64 a0_2] 64 (0, 0)) (by (with_reducible repeat (first | refine blk_drewN ?_ _ | refine blk_drew ?_ | refine blk_alloc ?_ _)); exact BK701.out) hb); have n1_ := Aside0.mk (below_step (by repeat (first | (with_reducible first | exact HB.out | apply below_alloc | apply pw_below_drewN | apply below_drew1 | refine below_set ?_ GE701.out) | exact HB.out)) hb); have n2_ := Aside0.mk (hbox); have n3_ := Aside0.mk ((by rw [hg]; exact (below_size (by repeat (first | (with_reducible first | exact HB.out | apply below_alloc | apply pw_below_drewN | apply below_drew1 | refine below_set ?_ GE701.out) | exact HB.out))) : w.heap.size ≤ gb702)); have n4_ := Aside0.mk ((by rw [hg]; exact (below_size (by repeat (first | (with_reducible first | exact HB.out | apply below_alloc | apply pw_below_drewN | apply below_drew1 | refine below_set ?_ GE701.out) | exact HB.out))) : w.heap.size ≤ gb702)); have n5_ := Aside0.mk ((by rw [hg]; exact Nat.ne_of_lt (blk_lt (g := gb701) (o := .cells #[.int .i64 a0_0, .int .i64 a0_1, .int .i64 a0_2] 64 (0, 0)) (by (with_reducible repeat (first | refine blk_drewN ?_ _ | refine blk_drew ?_ | refine blk_alloc ?_ _)); exact BK701.out)) : gb701 ≠ gb702)); have n6_ := Aside0.mk ((by rw [hg]; exact Nat.ne_of_gt (blk_lt (g := gb701) (o := .cells #[.int .i64 a0_0, .int .i64 a0_1, .int .i64 a0_2] 64 (0, 0)) (by (with_reducible repeat (first | refine blk_drewN ?_ _ | refine blk_drew ?_ | refine blk_alloc ?_ _)); exact BK701.out)) : gb702 ≠ gb701)); clear BK701; clear HB; have BK701 := n0_; have HB := n1_; have BK702 := n2_; have GW702 := n3_; have GE702 := n4_; have NB701_702 := n5_; have NB702_701 := n6_; clear n0_ n1_ n2_ n3_ n4_ n5_ n6_; clear hb hbox hg; have hnb18 := NB701_702.out; have hnc18 := NB702_701.out; have hcz19_0 : w17.cell? ⟨gb701, 0, none⟩ = some (.int .i64 a0_0) := (blk_cell BK701.out 0).trans rfl; have hcz19_1 : w17.cell? ⟨gb701, 1, none⟩ = some (.int .i64 a0_1) := (blk_cell BK701.out 1).trans rfl; have hcz19_2 : w17.cell? ⟨gb701, 2, none⟩ = some (.int .i64 a0_2) := (blk_cell BK701.out 2).trans rfl; have hfz19_0 := blk_frozen BK701.out 0; have hfz19_1 := blk_frozen BK701.out 1; have hfz19_2 := blk_frozen BK701.out 2; have hcz20_0 : w17.cell? ⟨gb702, 0, none⟩ = some (.int .i64 a1_0) := (blk_cell BK702.out 0).trans rfl; have hcz20_1 : w17.cell? ⟨gb702, 1, none⟩ = some (.int .i64 a1_1) := (blk_cell BK702.out 1).trans rfl; have hcz20_2 : w17.cell? ⟨gb702, 2, none⟩ = some (.int .i64 a1_2) := (blk_cell BK702.out 2).trans rfl; have hfz20_0 := blk_frozen BK702.out 0; have hfz20_1 := blk_frozen BK702.out 1; have hfz20_2 := blk_frozen BK702.out 2))
   go_ret
   exact ⟨by first | rfl | (simp [errW_none, errW_some] <;> rfl) | (simp [*, errW_none, errW_some] <;> rfl), by repeat (first | (with_reducible first | exact HB.out | apply below_alloc | apply pw_below_drewN | apply below_drew1 | refine below_set ?_ GE701.out | refine below_set ?_ GE702.out) | exact HB.out)⟩
 ·
  rw [if_neg c3] at H
  have c3b0 : (a0_0 == a1_0) = false := beq_eq_false_iff_ne.mpr c3
  have c3b1 : (a0_0 != a1_0) = true := bne_iff_ne.mpr c3
  obtain rfl := Option.some.inj H
  go_enter Try.func53, Try.ntmps53
  go_wp2_with (first | ((with_reducible refine gate_dst (N := 2) rfl ?_); refine box_event ?hg (N := 2) ?hd (cs := #[.int .i64 a0_0, .int .i64 a0_1, .int .i64 a0_2]) (t := 64) ?hr ?_; (case hd => rfl); (case hg => rfl); (case hr => first | (go_simp; done) | (go_simp; rfl)); intro gb701 hg w21 hbox hb; have n0_ := Aside0.mk (below_step (by repeat (first | (with_reducible first | exact HB.out | apply below_alloc | apply pw_below_drewN | apply below_drew1) | exact HB.out)) hb); have n1_ := Aside0.mk (hbox); have n2_ := Aside0.mk ((by rw [hg]; exact (below_size (by repeat (first | (with_reducible first | exact HB.out | apply below_alloc | apply pw_below_drewN | apply below_drew1) | exact HB.out))) : w.heap.size ≤ gb701)); have n3_ := Aside0.mk ((by rw [hg]; exact (below_size (by repeat (first | (with_reducible first | exact HB.out | apply below_alloc | apply pw_below_drewN | apply below_drew1) | exact HB.out))) : w.heap.size ≤ gb701)); clear HB; have HB := n0_; have BK701 := n1_; have GW701 := n2_; have GE701 := n3_; clear n0_ n1_ n2_ n3_; clear hb hbox hg) | ((with_reducible refine gate_dst (N := 3) rfl ?_); refine box_event ?hg (N := 3) ?hd (cs := #[.int .i64 a1_0, .int .i64 a1_1, .int .i64 a1_2]) (t := 64) ?hr ?_; (case hd => rfl); (case hg => rfl); (case hr => first | (go_simp; done) | (go_simp; rfl)); intro gb702 hg w22 hbox hb; have n0_ := Aside0.mk (blk_below (g := gb701) (o := .cells #[.int .i64 a0_0, .int .i64 a0_1, .int .i64 a0_2] 64 (0, 0)) (by (with_reducible repeat (first | refine blk_drewN ?_ _ | refine blk_drew ?_ | refine blk_alloc ?_ _)); exact BK701.out) hb); have n1_ := Aside0.mk (below_step (by repeat (first | (with_reducible first | exact HB.out | apply below_alloc | apply pw_below_drewN | apply below_drew1 | refine below_set ?_ GE701.out) | exact HB.out)) hb); have n2_ := Aside0.mk (hbox); have n3_ := Aside0.mk ((by rw [hg]; exact (below_size (by repeat (first | (with_reducible first | exact HB.out | apply below_alloc | apply pw_below_drewN | apply below_drew1 | refine below_set ?_ GE701.out) | exact HB.out))) : w.heap.size ≤ gb702)); have n4_ := Aside0.mk ((by rw [hg]; exact (below_size (by repeat (first | (with_reducible first | exact HB.out | apply below_alloc | apply pw_below_drewN | apply below_drew1 | refine below_set ?_ GE701.out) | exact HB.out))) : w.heap.size ≤ gb702)); have n5_ := Aside0.mk ((by rw [hg]; exact Nat.ne_of_lt (blk_lt (g := gb701) (o := .cells #[.int .i64 a0_0, .int .i64 a0_1, .int .i64 a0_2] 64 (0, 0)) (by (with_reducible repeat (first | refine blk_drewN ?_ _ | refine blk_drew ?_ | refine blk_alloc ?_ _)); exact BK701.out)) : gb701 ≠ gb702)); have n6_ := Aside0.mk ((by rw [hg]; exact Nat.ne_of_gt (blk_lt (g := gb701) (o := .cells #[.int .i64 a0_0, .int .i64 a0_1, .int .i64 a0_2] 64 (0, 0)) (by (with_reducible repeat (first | refine blk_drewN ?_ _ | refine blk_drew ?_ | refine blk_alloc ?_ _)); exact BK701.out)) : gb702 ≠ gb701)); clear BK701; clear HB; have BK701 := n0_; have HB := n1_; have BK702 := n2_; have GW702 := n3_; have GE702 := n4_; have NB701_702 := n5_; have NB702_701 := n6_; clear n0_ n1_ n2_ n3_ n4_ n5_ n6_; clear hb hbox hg; have hnb23 := NB701_702.out; have hnc23 := NB702_701.out; have hcz24_0 : w22.cell? ⟨gb701, 0, none⟩ = some (.int .i64 a0_0) := (blk_cell BK701.out 0).trans rfl; have hcz24_1 : w22.cell? ⟨gb701, 1, none⟩ = some (.int .i64 a0_1) := (blk_cell BK701.out 1).trans rfl; have hcz24_2 : w22.cell? ⟨gb701, 2, none⟩ = some (.int .i64 a0_2) := (blk_cell BK701.out 2).trans rfl; have hfz24_0 := blk_frozen BK701.out 0; have hfz24_1 := blk_frozen BK701.out 1; have hfz24_2 := blk_frozen BK701.out 2; have hcz25_0 : w22.cell? ⟨gb702, 0, none⟩ = some (.int .i64 a1_0) := (blk_cell BK702.out 0).trans rfl; have hcz25_1 : w22.cell? ⟨gb702, 1, none⟩ = some (.int .i64 a1_1) := (blk_cell BK702.out 1).trans rfl; have hcz25_2 : w22.cell? ⟨gb702, 2, none⟩ = some (.int .i64 a1_2) := (blk_cell BK702.out 2).trans rfl; have hfz25_0 := blk_frozen BK702.out 0; have hfz25_1 := blk_frozen BK702.out 1; have hfz25_2 := blk_frozen BK702.out 2))
  go_ret
  exact ⟨by first | rfl | (simp [errW_none, errW_some] <;> rfl) | (simp [*, errW_none, errW_some] <;> rfl), by repeat (first | (with_reducible first | exact HB.out | apply below_alloc | apply pw_below_drewN | apply below_drew1 | refine below_set ?_ GE701.out | refine below_set ?_ GE702.out) | exact HB.out)⟩
end Go.Proofs.Ytiophiipmgpaeaa.F

namespace Go.Proofs.Ytiophiipmgpaeaa.F
open Go.RowKit Go.Proofs.YtiophiipmgpaeaaW.PrintWords Go.Proofs.YtiophiipmgpaeaaW.PrintLast Go.Proofs.YtiophiipmgpaeaaW.PrintMore
attribute [local go_sem] max2_int min2_int max_two min_two max_three min_three max_four min_four
set_option linter.unusedVariables false
set_option linter.unusedSimpArgs false
def laws_FnExactSpellIn.f (k : Nat) (a0 : Int) (a1 : Int) : Option (Bool) := (spec_SpellIn.f k a0 a1).bind fun bt703 => ((impl_SpellIn.f a0 a1).bind fun bt708 => ((laws_eqNote.f bt708.1 bt708.2.1 bt708.2.2.1 bt703.1 bt703.2.1 bt703.2.2.1).bind fun t713 => (if t713 = true then (if (bt708.2.2.2 != bt703.2.2.2) = true then (some false) else (some true)) else (some false))))
set_option maxHeartbeats 8000000 in
set_option maxRecDepth 100000 in
theorem laws_FnExactSpellIn.calls (k : Nat) (a0 : Int) (a1 : Int) (r : Bool) (w : World) (h : laws_FnExactSpellIn.f k a0 a1 = some r) :
  Calls Try.prog 10 #[.int .i64 a0, .int .i64 a1] w fun e w' => e = .returned (.bool r) ∧ Below w.heap.size w w' := by
 have hu64 := Try.underlying64
 have HB := Aside0.mk (Below.refl w.heap.size w)
 have H : ((spec_SpellIn.f k a0 a1).bind fun bt703 => ((impl_SpellIn.f a0 a1).bind fun bt708 => ((laws_eqNote.f bt708.1 bt708.2.1 bt708.2.2.1 bt703.1 bt703.2.1 bt703.2.2.1).bind fun t713 => (if t713 = true then (if (bt708.2.2.2 != bt703.2.2.2) = true then (some false) else (some true)) else (some false))))) = some r := h
 clear h
 replace H := Option.bind_eq_some_iff.mp H
 obtain ⟨⟨t703, t704, t705, t706⟩, A30, H⟩ := H
 try dsimp only at H
 have A3 := Aside0.mk A30
 clear A30
 replace H := Option.bind_eq_some_iff.mp H
 obtain ⟨⟨t708, t709, t710, t711⟩, A40, H⟩ := H
 try dsimp only at H
 have A4 := Aside0.mk A40
 clear A40
 replace H := Option.bind_eq_some_iff.mp H
 obtain ⟨t713, A50, H⟩ := H
 try dsimp only at H
 have A5 := Aside0.mk A50
 clear A50
 by_cases c6 : t713 = true
 ·
  subst c6
  rw [if_pos rfl] at H
  by_cases c7 : (t711 != t706) = true
  ·
   rw [if_pos c7] at H
   have c7b0 : (t711 != t706) = true := c7
   (try (have c7b1 : decide (t711 = t706) = false := by simpa using c7))
   (try (have c7b2 : (t711 == t706) = false := by simpa using c7))
   (try (have c7b3 : ¬ (t711 = t706) := by simpa using c7))
   clear c7
   obtain rfl := Option.some.inj H
   go_enter Try.func10, Try.ntmps10
   go_wp2_with (first | ((with_reducible refine gate_callee (f := 51) rfl ?_); refine goesL_ (some 12) rfl rfl Try.func51 (by kernel_rfl) rfl #[.int .i64 a0, .int .i64 a1] rfl (by (try simp only [List.map_toArray, List.map_cons, List.map_nil]); first | done | rfl | (simp only [List.length_drop, List.length_take]; rfl)) ?_; (with_reducible refine (spec_SpellIn.calls k a0 a1 t703 t704 t705 t706 _ A3.out).mono ?_); rintro e w8 ⟨rfl, hb⟩; refine ⟨_, rfl, ?_⟩; have n0_ := Aside0.mk (below_step (by repeat (first | (with_reducible first | exact HB.out | apply below_alloc | apply pw_below_drewN | apply below_drew1) | exact HB.out)) hb); clear HB; have HB := n0_; clear n0_; (try clear hb); (try clear hb2); (try clear hk); (try clear hi)) | ((with_reducible refine gate_dst (N := 5) rfl ?_); refine box_event ?hg (N := 5) ?hd (cs := #[.int .i64 0, .int .i64 0, .int .i64 0]) (t := 64) ?hr ?_; (case hd => rfl); (case hg => rfl); (case hr => first | (go_simp; done) | (go_simp; rfl)); intro gb707 hg w9 hbox hb; have n0_ := Aside0.mk (below_step (by repeat (first | (with_reducible first | exact HB.out | apply below_alloc | apply pw_below_drewN | apply below_drew1) | exact HB.out)) hb); have n1_ := Aside0.mk (hbox); have n2_ := Aside0.mk ((by rw [hg]; exact (below_size (by repeat (first | (with_reducible first | exact HB.out | apply below_alloc | apply pw_below_drewN | apply below_drew1) | exact HB.out))) : w.heap.size ≤ gb707)); have n3_ := Aside0.mk ((by rw [hg]; exact (below_size (by repeat (first | (with_reducible first | exact HB.out | apply below_alloc | apply pw_below_drewN | apply below_drew1) | exact HB.out))) : w.heap.size ≤ gb707)); clear HB; have HB := n0_; have BK707 := n1_; have GW707 := n2_; have GE707 := n3_; clear n0_ n1_ n2_ n3_; clear hb hbox hg; have hcz10_0 : w9.cell? ⟨gb707, 0, none⟩ = some (.int .i64 0) := (blk_cell BK707.out 0).trans rfl; have hcz10_1 : w9.cell? ⟨gb707, 1, none⟩ = some (.int .i64 0) := (blk_cell BK707.out 1).trans rfl; have hcz10_2 : w9.cell? ⟨gb707, 2, none⟩ = some (.int .i64 0) := (blk_cell BK707.out 2).trans rfl; have hfz10_0 := blk_frozen BK707.out 0; have hfz10_1 := blk_frozen BK707.out 1; have hfz10_2 := blk_frozen BK707.out 2) | ((with_reducible refine gate_callee (f := 52) rfl ?_); refine goesL_ (some 18) rfl rfl Try.func52 (by kernel_rfl) rfl #[.int .i64 a0, .int .i64 a1] rfl (by (try simp only [List.map_toArray, List.map_cons, List.map_nil]); first | done | rfl | (simp only [List.length_drop, List.length_take]; rfl)) ?_; (with_reducible refine (impl_SpellIn.calls a0 a1 t708 t709 t710 t711 _ A4.out).mono ?_); rintro e w11 ⟨rfl, hb⟩; refine ⟨_, rfl, ?_⟩; have n0_ := Aside0.mk (blk_below (g := gb707) (o := .cells #[.int .i64 t703, .int .i64 t704, .int .i64 t705] 64 (0, 0)) (by (with_reducible repeat (first | refine blk_drewN ?_ _ | refine blk_drew ?_ | refine blk_alloc ?_ _)); refine blk_put (cs := #[.int .i64 t703, .int .i64 t704, .int .i64 0]) ?_ 2 _ rfl; (with_reducible repeat (first | refine blk_drewN ?_ _ | refine blk_drew ?_ | refine blk_alloc ?_ _)); refine blk_put (cs := #[.int .i64 t703, .int .i64 0, .int .i64 0]) ?_ 1 _ rfl; (with_reducible repeat (first | refine blk_drewN ?_ _ | refine blk_drew ?_ | refine blk_alloc ?_ _)); refine blk_put (cs := #[.int .i64 0, .int .i64 0, .int .i64 0]) ?_ 0 _ rfl; (with_reducible repeat (first | refine blk_drewN ?_ _ | refine blk_drew ?_ | refine blk_alloc ?_ _)); exact BK707.out) hb); have n1_ := Aside0.mk (below_step (by repeat (first | (with_reducible first | exact HB.out | apply below_alloc | apply pw_below_drewN | apply below_drew1 | refine below_set ?_ GE707.out) | exact HB.out)) hb); clear BK707; clear HB; have BK707 := n0_; have HB := n1_; clear n0_ n1_; (try clear hb); (try clear hb2); (try clear hk); (try clear hi)) | ((with_reducible refine gate_dst (N := 7) rfl ?_); refine box_event ?hg (N := 7) ?hd (cs := #[.int .i64 0, .int .i64 0, .int .i64 0]) (t := 64) ?hr ?_; (case hd => rfl); (case hg => rfl); (case hr => first | (go_simp; done) | (go_simp; rfl)); intro gb712 hg w12 hbox hb; have n0_ := Aside0.mk (blk_below (g := gb707) (o := .cells #[.int .i64 t703, .int .i64 t704, .int .i64 t705] 64 (0, 0)) (by (with_reducible repeat (first | refine blk_drewN ?_ _ | refine blk_drew ?_ | refine blk_alloc ?_ _)); exact BK707.out) hb); have n1_ := Aside0.mk (below_step (by repeat (first | (with_reducible first | exact HB.out | apply below_alloc | apply pw_below_drewN | apply below_drew1 | refine below_set ?_ GE707.out) | exact HB.out)) hb); have n2_ := Aside0.mk (hbox); have n3_ := Aside0.mk ((by rw [hg]; exact (below_size (by repeat (first | (with_reducible first | exact HB.out | apply below_alloc | apply pw_below_drewN | apply below_drew1 | refine below_set ?_ GE707.out) | exact HB.out))) : w.heap.size ≤ gb712)); have n4_ := Aside0.mk ((by rw [hg]; exact (below_size (by repeat (first | (with_reducible first | exact HB.out | apply below_alloc | apply pw_below_drewN | apply below_drew1 | refine below_set ?_ GE707.out) | exact HB.out))) : w.heap.size ≤ gb712)); have n5_ := Aside0.mk ((by rw [hg]; exact Nat.ne_of_lt (blk_lt (g := gb707) (o := .cells #[.int .i64 t703, .int .i64 t704, .int .i64 t705] 64 (0, 0)) (by (with_reducible repeat (first | refine blk_drewN ?_ _ | refine blk_drew ?_ | refine blk_alloc ?_ _)); exact BK707.out)) : gb707 ≠ gb712)); have n6_ := Aside0.mk ((by rw [hg]; exact Nat.ne_of_gt (blk_lt (g := gb707) (o := .cells #[.int .i64 t703, .int .i64 t704, .int .i64 t705] 64 (0, 0)) (by (with_reducible repeat (first | refine blk_drewN ?_ _ | refine blk_drew ?_ | refine blk_alloc ?_ _)); exact BK707.out)) : gb712 ≠ gb707)); clear BK707; clear HB; have BK707 := n0_; have HB := n1_; have BK712 := n2_; have GW712 := n3_; have GE712 := n4_; have NB707_712 := n5_; have NB712_707 := n6_; clear n0_ n1_ n2_ n3_ n4_ n5_ n6_; clear hb hbox hg; have hnb13 := NB712_707.out; have hnc13 := NB707_712.out; have hcz14_0 : w12.cell? ⟨gb712, 0, none⟩ = some (.int .i64 0) := (blk_cell BK712.out 0).trans rfl; have hcz14_1 : w12.cell? ⟨gb712, 1, none⟩ = some (.int .i64 0) := (blk_cell BK712.out 1).trans rfl; have hcz14_2 : w12.cell? ⟨gb712, 2, none⟩ = some (.int .i64 0) := (blk_cell BK712.out 2).trans rfl; have hfz14_0 := blk_frozen BK712.out 0; have hfz14_1 := blk_frozen BK712.out 1; have hfz14_2 := blk_frozen BK712.out 2; have hcz15_0 : w12.cell? ⟨gb707, 0, none⟩ = some (.int .i64 t703) := (blk_cell BK707.out 0).trans rfl; have hcz15_1 : w12.cell? ⟨gb707, 1, none⟩ = some (.int .i64 t704) := (blk_cell BK707.out 1).trans rfl; have hcz15_2 : w12.cell? ⟨gb707, 2, none⟩ = some (.int .i64 t705) := (blk_cell BK707.out 2).trans rfl; have hfz15_0 := blk_frozen BK707.out 0; have hfz15_1 := blk_frozen BK707.out 1; have hfz15_2 := blk_frozen BK707.out 2) | ((with_reducible refine gate_callee (f := 53) rfl ?_); refine goesL_ (some 23) rfl rfl Try.func53 (by kernel_rfl) rfl #[.agg #[.int .i64 t708, .int .i64 t709, .int .i64 t710], .agg #[.int .i64 t703, .int .i64 t704, .int .i64 t705]] rfl (by (try simp only [List.map_toArray, List.map_cons, List.map_nil]); first | done | rfl | (simp only [List.length_drop, List.length_take]; rfl)) ?_; (with_reducible refine (laws_eqNote.calls t708 t709 t710 t703 t704 t705 true _ A5.out).mono ?_); rintro e w16 ⟨rfl, hb⟩; refine ⟨_, rfl, ?_⟩; have n0_ := Aside0.mk (blk_below (g := gb707) (o := .cells #[.int .i64 t703, .int .i64 t704, .int .i64 t705] 64 (0, 0)) (by (with_reducible repeat (first | refine blk_drewN ?_ _ | refine blk_drew ?_ | refine blk_alloc ?_ _)); refine blk_far ?_ NB707_712.out _; (with_reducible repeat (first | refine blk_drewN ?_ _ | refine blk_drew ?_ | refine blk_alloc ?_ _)); refine blk_far ?_ NB707_712.out _; (with_reducible repeat (first | refine blk_drewN ?_ _ | refine blk_drew ?_ | refine blk_alloc ?_ _)); refine blk_far ?_ NB707_712.out _; (with_reducible repeat (first | refine blk_drewN ?_ _ | refine blk_drew ?_ | refine blk_alloc ?_ _)); exact BK707.out) hb); have n1_ := Aside0.mk (blk_below (g := gb712) (o := .cells #[.int .i64 t708, .int .i64 t709, .int .i64 t710] 64 (0, 0)) (by (with_reducible repeat (first | refine blk_drewN ?_ _ | refine blk_drew ?_ | refine blk_alloc ?_ _)); refine blk_put (cs := #[.int .i64 t708, .int .i64 t709, .int .i64 0]) ?_ 2 _ rfl; (with_reducible repeat (first | refine blk_drewN ?_ _ | refine blk_drew ?_ | refine blk_alloc ?_ _)); refine blk_put (cs := #[.int .i64 t708, .int .i64 0, .int .i64 0]) ?_ 1 _ rfl; (with_reducible repeat (first | refine blk_drewN ?_ _ | refine blk_drew ?_ | refine blk_alloc ?_ _)); refine blk_put (cs := #[.int .i64 0, .int .i64 0, .int .i64 0]) ?_ 0 _ rfl; (with_reducible repeat (first | refine blk_drewN ?_ _ | refine blk_drew ?_ | refine blk_alloc ?_ _)); exact BK712.out) hb); have n2_ := Aside0.mk (below_step (by repeat (first | (with_reducible first | exact HB.out | apply below_alloc | apply pw_below_drewN | apply below_drew1 | refine below_set ?_ GE707.out | refine below_set ?_ GE712.out) | exact HB.out)) hb); clear BK707; clear BK712; clear HB; have BK707 := n0_; have BK712 := n1_; have HB := n2_; clear n0_ n1_ n2_; (try clear hb); (try clear hb2); (try clear hk); (try clear hi)))
   go_ret
   exact ⟨by first | rfl | (simp [errW_none, errW_some] <;> rfl) | (simp [*, errW_none, errW_some] <;> rfl), by repeat (first | (with_reducible first | exact HB.out | apply below_alloc | apply pw_below_drewN | apply below_drew1 | refine below_set ?_ GE707.out | refine below_set ?_ GE712.out) | exact HB.out)⟩
  ·
   rw [if_neg c7] at H
   have c7b0 : (t711 != t706) = false := by simpa using c7
   (try (have c7b1 : decide (t711 = t706) = true := by simpa using c7))
   (try (have c7b2 : (t711 == t706) = true := by simpa using c7))
   clear c7
   obtain rfl := Option.some.inj H
   go_enter Try.func10, Try.ntmps10
   go_wp2_with (first | ((with_reducible refine gate_callee (f := 51) rfl ?_); refine goesL_ (some 12) rfl rfl Try.func51 (by kernel_rfl) rfl #[.int .i64 a0, .int .i64 a1] rfl (by (try simp only [List.map_toArray, List.map_cons, List.map_nil]); first | done | rfl | (simp only [List.length_drop, List.length_take]; rfl)) ?_; (with_reducible refine (spec_SpellIn.calls k a0 a1 t703 t704 t705 t706 _ A3.out).mono ?_); rintro e w17 ⟨rfl, hb⟩; refine ⟨_, rfl, ?_⟩; have n0_ := Aside0.mk (below_step (by repeat (first | (with_reducible first | exact HB.out | apply below_alloc | apply pw_below_drewN | apply below_drew1) | exact HB.out)) hb); clear HB; have HB := n0_; clear n0_; (try clear hb); (try clear hb2); (try clear hk); (try clear hi)) | ((with_reducible refine gate_dst (N := 5) rfl ?_); refine box_event ?hg (N := 5) ?hd (cs := #[.int .i64 0, .int .i64 0, .int .i64 0]) (t := 64) ?hr ?_; (case hd => rfl); (case hg => rfl); (case hr => first | (go_simp; done) | (go_simp; rfl)); intro gb707 hg w18 hbox hb; have n0_ := Aside0.mk (below_step (by repeat (first | (with_reducible first | exact HB.out | apply below_alloc | apply pw_below_drewN | apply below_drew1) | exact HB.out)) hb); have n1_ := Aside0.mk (hbox); have n2_ := Aside0.mk ((by rw [hg]; exact (below_size (by repeat (first | (with_reducible first | exact HB.out | apply below_alloc | apply pw_below_drewN | apply below_drew1) | exact HB.out))) : w.heap.size ≤ gb707)); have n3_ := Aside0.mk ((by rw [hg]; exact (below_size (by repeat (first | (with_reducible first | exact HB.out | apply below_alloc | apply pw_below_drewN | apply below_drew1) | exact HB.out))) : w.heap.size ≤ gb707)); clear HB; have HB := n0_; have BK707 := n1_; have GW707 := n2_; have GE707 := n3_; clear n0_ n1_ n2_ n3_; clear hb hbox hg; have hcz19_0 : w18.cell? ⟨gb707, 0, none⟩ = some (.int .i64 0) := (blk_cell BK707.out 0).trans rfl; have hcz19_1 : w18.cell? ⟨gb707, 1, none⟩ = some (.int .i64 0) := (blk_cell BK707.out 1).trans rfl; have hcz19_2 : w18.cell? ⟨gb707, 2, none⟩ = some (.int .i64 0) := (blk_cell BK707.out 2).trans rfl; have hfz19_0 := blk_frozen BK707.out 0; have hfz19_1 := blk_frozen BK707.out 1; have hfz19_2 := blk_frozen BK707.out 2) | ((with_reducible refine gate_callee (f := 52) rfl ?_); refine goesL_ (some 18) rfl rfl Try.func52 (by kernel_rfl) rfl #[.int .i64 a0, .int .i64 a1] rfl (by (try simp only [List.map_toArray, List.map_cons, List.map_nil]); first | done | rfl | (simp only [List.length_drop, List.length_take]; rfl)) ?_; (with_reducible refine (impl_SpellIn.calls a0 a1 t708 t709 t710 t711 _ A4.out).mono ?_); rintro e w20 ⟨rfl, hb⟩; refine ⟨_, rfl, ?_⟩; have n0_ := Aside0.mk (blk_below (g := gb707) (o := .cells #[.int .i64 t703, .int .i64 t704, .int .i64 t705] 64 (0, 0)) (by (with_reducible repeat (first | refine blk_drewN ?_ _ | refine blk_drew ?_ | refine blk_alloc ?_ _)); refine blk_put (cs := #[.int .i64 t703, .int .i64 t704, .int .i64 0]) ?_ 2 _ rfl; (with_reducible repeat (first | refine blk_drewN ?_ _ | refine blk_drew ?_ | refine blk_alloc ?_ _)); refine blk_put (cs := #[.int .i64 t703, .int .i64 0, .int .i64 0]) ?_ 1 _ rfl; (with_reducible repeat (first | refine blk_drewN ?_ _ | refine blk_drew ?_ | refine blk_alloc ?_ _)); refine blk_put (cs := #[.int .i64 0, .int .i64 0, .int .i64 0]) ?_ 0 _ rfl; (with_reducible repeat (first | refine blk_drewN ?_ _ | refine blk_drew ?_ | refine blk_alloc ?_ _)); exact BK707.out) hb); have n1_ := Aside0.mk (below_step (by repeat (first | (with_reducible first | exact HB.out | apply below_alloc | apply pw_below_drewN | apply below_drew1 | refine below_set ?_ GE707.out) | exact HB.out)) hb); clear BK707; clear HB; have BK707 := n0_; have HB := n1_; clear n0_ n1_; (try clear hb); (try clear hb2); (try clear hk); (try clear hi)) | ((with_reducible refine gate_dst (N := 7) rfl ?_); refine box_event ?hg (N := 7) ?hd (cs := #[.int .i64 0, .int .i64 0, .int .i64 0]) (t := 64) ?hr ?_; (case hd => rfl); (case hg => rfl); (case hr => first | (go_simp; done) | (go_simp; rfl)); intro gb712 hg w21 hbox hb; have n0_ := Aside0.mk (blk_below (g := gb707) (o := .cells #[.int .i64 t703, .int .i64 t704, .int .i64 t705] 64 (0, 0)) (by (with_reducible repeat (first | refine blk_drewN ?_ _ | refine blk_drew ?_ | refine blk_alloc ?_ _)); exact BK707.out) hb); have n1_ := Aside0.mk (below_step (by repeat (first | (with_reducible first | exact HB.out | apply below_alloc | apply pw_below_drewN | apply below_drew1 | refine below_set ?_ GE707.out) | exact HB.out)) hb); have n2_ := Aside0.mk (hbox); have n3_ := Aside0.mk ((by rw [hg]; exact (below_size (by repeat (first | (with_reducible first | exact HB.out | apply below_alloc | apply pw_below_drewN | apply below_drew1 | refine below_set ?_ GE707.out) | exact HB.out))) : w.heap.size ≤ gb712)); have n4_ := Aside0.mk ((by rw [hg]; exact (below_size (by repeat (first | (with_reducible first | exact HB.out | apply below_alloc | apply pw_below_drewN | apply below_drew1 | refine below_set ?_ GE707.out) | exact HB.out))) : w.heap.size ≤ gb712)); have n5_ := Aside0.mk ((by rw [hg]; exact Nat.ne_of_lt (blk_lt (g := gb707) (o := .cells #[.int .i64 t703, .int .i64 t704, .int .i64 t705] 64 (0, 0)) (by (with_reducible repeat (first | refine blk_drewN ?_ _ | refine blk_drew ?_ | refine blk_alloc ?_ _)); exact BK707.out)) : gb707 ≠ gb712)); have n6_ := Aside0.mk ((by rw [hg]; exact Nat.ne_of_gt (blk_lt (g := gb707) (o := .cells #[.int .i64 t703, .int .i64 t704, .int .i64 t705] 64 (0, 0)) (by (with_reducible repeat (first | refine blk_drewN ?_ _ | refine blk_drew ?_ | refine blk_alloc ?_ _)); exact BK707.out)) : gb712 ≠ gb707)); clear BK707; clear HB; have BK707 := n0_; have HB := n1_; have BK712 := n2_; have GW712 := n3_; have GE712 := n4_; have NB707_712 := n5_; have NB712_707 := n6_; clear n0_ n1_ n2_ n3_ n4_ n5_ n6_; clear hb hbox hg; have hnb22 := NB712_707.out; have hnc22 := NB707_712.out; have hcz23_0 : w21.cell? ⟨gb712, 0, none⟩ = some (.int .i64 0) := (blk_cell BK712.out 0).trans rfl; have hcz23_1 : w21.cell? ⟨gb712, 1, none⟩ = some (.int .i64 0) := (blk_cell BK712.out 1).trans rfl; have hcz23_2 : w21.cell? ⟨gb712, 2, none⟩ = some (.int .i64 0) := (blk_cell BK712.out 2).trans rfl; have hfz23_0 := blk_frozen BK712.out 0; have hfz23_1 := blk_frozen BK712.out 1; have hfz23_2 := blk_frozen BK712.out 2; have hcz24_0 : w21.cell? ⟨gb707, 0, none⟩ = some (.int .i64 t703) := (blk_cell BK707.out 0).trans rfl; have hcz24_1 : w21.cell? ⟨gb707, 1, none⟩ = some (.int .i64 t704) := (blk_cell BK707.out 1).trans rfl; have hcz24_2 : w21.cell? ⟨gb707, 2, none⟩ = some (.int .i64 t705) := (blk_cell BK707.out 2).trans rfl; have hfz24_0 := blk_frozen BK707.out 0; have hfz24_1 := blk_frozen BK707.out 1; have hfz24_2 := blk_frozen BK707.out 2) | ((with_reducible refine gate_callee (f := 53) rfl ?_); refine goesL_ (some 23) rfl rfl Try.func53 (by kernel_rfl) rfl #[.agg #[.int .i64 t708, .int .i64 t709, .int .i64 t710], .agg #[.int .i64 t703, .int .i64 t704, .int .i64 t705]] rfl (by (try simp only [List.map_toArray, List.map_cons, List.map_nil]); first | done | rfl | (simp only [List.length_drop, List.length_take]; rfl)) ?_; (with_reducible refine (laws_eqNote.calls t708 t709 t710 t703 t704 t705 true _ A5.out).mono ?_); rintro e w25 ⟨rfl, hb⟩; refine ⟨_, rfl, ?_⟩; have n0_ := Aside0.mk (blk_below (g := gb707) (o := .cells #[.int .i64 t703, .int .i64 t704, .int .i64 t705] 64 (0, 0)) (by (with_reducible repeat (first | refine blk_drewN ?_ _ | refine blk_drew ?_ | refine blk_alloc ?_ _)); refine blk_far ?_ NB707_712.out _; (with_reducible repeat (first | refine blk_drewN ?_ _ | refine blk_drew ?_ | refine blk_alloc ?_ _)); refine blk_far ?_ NB707_712.out _; (with_reducible repeat (first | refine blk_drewN ?_ _ | refine blk_drew ?_ | refine blk_alloc ?_ _)); refine blk_far ?_ NB707_712.out _; (with_reducible repeat (first | refine blk_drewN ?_ _ | refine blk_drew ?_ | refine blk_alloc ?_ _)); exact BK707.out) hb); have n1_ := Aside0.mk (blk_below (g := gb712) (o := .cells #[.int .i64 t708, .int .i64 t709, .int .i64 t710] 64 (0, 0)) (by (with_reducible repeat (first | refine blk_drewN ?_ _ | refine blk_drew ?_ | refine blk_alloc ?_ _)); refine blk_put (cs := #[.int .i64 t708, .int .i64 t709, .int .i64 0]) ?_ 2 _ rfl; (with_reducible repeat (first | refine blk_drewN ?_ _ | refine blk_drew ?_ | refine blk_alloc ?_ _)); refine blk_put (cs := #[.int .i64 t708, .int .i64 0, .int .i64 0]) ?_ 1 _ rfl; (with_reducible repeat (first | refine blk_drewN ?_ _ | refine blk_drew ?_ | refine blk_alloc ?_ _)); refine blk_put (cs := #[.int .i64 0, .int .i64 0, .int .i64 0]) ?_ 0 _ rfl; (with_reducible repeat (first | refine blk_drewN ?_ _ | refine blk_drew ?_ | refine blk_alloc ?_ _)); exact BK712.out) hb); have n2_ := Aside0.mk (below_step (by repeat (first | (with_reducible first | exact HB.out | apply below_alloc | apply pw_below_drewN | apply below_drew1 | refine below_set ?_ GE707.out | refine below_set ?_ GE712.out) | exact HB.out)) hb); clear BK707; clear BK712; clear HB; have BK707 := n0_; have BK712 := n1_; have HB := n2_; clear n0_ n1_ n2_; (try clear hb); (try clear hb2); (try clear hk); (try clear hi)))
   go_ret
   exact ⟨by first | rfl | (simp [errW_none, errW_some] <;> rfl) | (simp [*, errW_none, errW_some] <;> rfl), by repeat (first | (with_reducible first | exact HB.out | apply below_alloc | apply pw_below_drewN | apply below_drew1 | refine below_set ?_ GE707.out | refine below_set ?_ GE712.out) | exact HB.out)⟩
 ·
  replace c6 := Bool.eq_false_iff.mpr c6
  subst c6
  rw [if_neg (show ¬ (false = true) by decide)] at H
  obtain rfl := Option.some.inj H
  go_enter Try.func10, Try.ntmps10
  go_wp2_with (first | ((with_reducible refine gate_callee (f := 51) rfl ?_); refine goesL_ (some 12) rfl rfl Try.func51 (by kernel_rfl) rfl #[.int .i64 a0, .int .i64 a1] rfl (by (try simp only [List.map_toArray, List.map_cons, List.map_nil]); first | done | rfl | (simp only [List.length_drop, List.length_take]; rfl)) ?_; (with_reducible refine (spec_SpellIn.calls k a0 a1 t703 t704 t705 t706 _ A3.out).mono ?_); rintro e w26 ⟨rfl, hb⟩; refine ⟨_, rfl, ?_⟩; have n0_ := Aside0.mk (below_step (by repeat (first | (with_reducible first | exact HB.out | apply below_alloc | apply pw_below_drewN | apply below_drew1) | exact HB.out)) hb); clear HB; have HB := n0_; clear n0_; (try clear hb); (try clear hb2); (try clear hk); (try clear hi)) | ((with_reducible refine gate_dst (N := 5) rfl ?_); refine box_event ?hg (N := 5) ?hd (cs := #[.int .i64 0, .int .i64 0, .int .i64 0]) (t := 64) ?hr ?_; (case hd => rfl); (case hg => rfl); (case hr => first | (go_simp; done) | (go_simp; rfl)); intro gb707 hg w27 hbox hb; have n0_ := Aside0.mk (below_step (by repeat (first | (with_reducible first | exact HB.out | apply below_alloc | apply pw_below_drewN | apply below_drew1) | exact HB.out)) hb); have n1_ := Aside0.mk (hbox); have n2_ := Aside0.mk ((by rw [hg]; exact (below_size (by repeat (first | (with_reducible first | exact HB.out | apply below_alloc | apply pw_below_drewN | apply below_drew1) | exact HB.out))) : w.heap.size ≤ gb707)); have n3_ := Aside0.mk ((by rw [hg]; exact (below_size (by repeat (first | (with_reducible first | exact HB.out | apply below_alloc | apply pw_below_drewN | apply below_drew1) | exact HB.out))) : w.heap.size ≤ gb707)); clear HB; have HB := n0_; have BK707 := n1_; have GW707 := n2_; have GE707 := n3_; clear n0_ n1_ n2_ n3_; clear hb hbox hg; have hcz28_0 : w27.cell? ⟨gb707, 0, none⟩ = some (.int .i64 0) := (blk_cell BK707.out 0).trans rfl; have hcz28_1 : w27.cell? ⟨gb707, 1, none⟩ = some (.int .i64 0) := (blk_cell BK707.out 1).trans rfl; have hcz28_2 : w27.cell? ⟨gb707, 2, none⟩ = some (.int .i64 0) := (blk_cell BK707.out 2).trans rfl; have hfz28_0 := blk_frozen BK707.out 0; have hfz28_1 := blk_frozen BK707.out 1; have hfz28_2 := blk_frozen BK707.out 2) | ((with_reducible refine gate_callee (f := 52) rfl ?_); refine goesL_ (some 18) rfl rfl Try.func52 (by kernel_rfl) rfl #[.int .i64 a0, .int .i64 a1] rfl (by (try simp only [List.map_toArray, List.map_cons, List.map_nil]); first | done | rfl | (simp only [List.length_drop, List.length_take]; rfl)) ?_; (with_reducible refine (impl_SpellIn.calls a0 a1 t708 t709 t710 t711 _ A4.out).mono ?_); rintro e w29 ⟨rfl, hb⟩; refine ⟨_, rfl, ?_⟩; have n0_ := Aside0.mk (blk_below (g := gb707) (o := .cells #[.int .i64 t703, .int .i64 t704, .int .i64 t705] 64 (0, 0)) (by (with_reducible repeat (first | refine blk_drewN ?_ _ | refine blk_drew ?_ | refine blk_alloc ?_ _)); refine blk_put (cs := #[.int .i64 t703, .int .i64 t704, .int .i64 0]) ?_ 2 _ rfl; (with_reducible repeat (first | refine blk_drewN ?_ _ | refine blk_drew ?_ | refine blk_alloc ?_ _)); refine blk_put (cs := #[.int .i64 t703, .int .i64 0, .int .i64 0]) ?_ 1 _ rfl; (with_reducible repeat (first | refine blk_drewN ?_ _ | refine blk_drew ?_ | refine blk_alloc ?_ _)); refine blk_put (cs := #[.int .i64 0, .int .i64 0, .int .i64 0]) ?_ 0 _ rfl; (with_reducible repeat (first | refine blk_drewN ?_ _ | refine blk_drew ?_ | refine blk_alloc ?_ _)); exact BK707.out) hb); have n1_ := Aside0.mk (below_step (by repeat (first | (with_reducible first | exact HB.out | apply below_alloc | apply pw_below_drewN | apply below_drew1 | refine below_set ?_ GE707.out) | exact HB.out)) hb); clear BK707; clear HB; have BK707 := n0_; have HB := n1_; clear n0_ n1_; (try clear hb); (try clear hb2); (try clear hk); (try clear hi)) | ((with_reducible refine gate_dst (N := 7) rfl ?_); refine box_event ?hg (N := 7) ?hd (cs := #[.int .i64 0, .int .i64 0, .int .i64 0]) (t := 64) ?hr ?_; (case hd => rfl); (case hg => rfl); (case hr => first | (go_simp; done) | (go_simp; rfl)); intro gb712 hg w30 hbox hb; have n0_ := Aside0.mk (blk_below (g := gb707) (o := .cells #[.int .i64 t703, .int .i64 t704, .int .i64 t705] 64 (0, 0)) (by (with_reducible repeat (first | refine blk_drewN ?_ _ | refine blk_drew ?_ | refine blk_alloc ?_ _)); exact BK707.out) hb); have n1_ := Aside0.mk (below_step (by repeat (first | (with_reducible first | exact HB.out | apply below_alloc | apply pw_below_drewN | apply below_drew1 | refine below_set ?_ GE707.out) | exact HB.out)) hb); have n2_ := Aside0.mk (hbox); have n3_ := Aside0.mk ((by rw [hg]; exact (below_size (by repeat (first | (with_reducible first | exact HB.out | apply below_alloc | apply pw_below_drewN | apply below_drew1 | refine below_set ?_ GE707.out) | exact HB.out))) : w.heap.size ≤ gb712)); have n4_ := Aside0.mk ((by rw [hg]; exact (below_size (by repeat (first | (with_reducible first | exact HB.out | apply below_alloc | apply pw_below_drewN | apply below_drew1 | refine below_set ?_ GE707.out) | exact HB.out))) : w.heap.size ≤ gb712)); have n5_ := Aside0.mk ((by rw [hg]; exact Nat.ne_of_lt (blk_lt (g := gb707) (o := .cells #[.int .i64 t703, .int .i64 t704, .int .i64 t705] 64 (0, 0)) (by (with_reducible repeat (first | refine blk_drewN ?_ _ | refine blk_drew ?_ | refine blk_alloc ?_ _)); exact BK707.out)) : gb707 ≠ gb712)); have n6_ := Aside0.mk ((by rw [hg]; exact Nat.ne_of_gt (blk_lt (g := gb707) (o := .cells #[.int .i64 t703, .int .i64 t704, .int .i64 t705] 64 (0, 0)) (by (with_reducible repeat (first | refine blk_drewN ?_ _ | refine blk_drew ?_ | refine blk_alloc ?_ _)); exact BK707.out)) : gb712 ≠ gb707)); clear BK707; clear HB; have BK707 := n0_; have HB := n1_; have BK712 := n2_; have GW712 := n3_; have GE712 := n4_; have NB707_712 := n5_; have NB712_707 := n6_; clear n0_ n1_ n2_ n3_ n4_ n5_ n6_; clear hb hbox hg; have hnb31 := NB712_707.out; have hnc31 := NB707_712.out; have hcz32_0 : w30.cell? ⟨gb712, 0, none⟩ = some (.int .i64 0) := (blk_cell BK712.out 0).trans rfl; have hcz32_1 : w30.cell? ⟨gb712, 1, none⟩ = some (.int .i64 0) := (blk_cell BK712.out 1).trans rfl; have hcz32_2 : w30.cell? ⟨gb712, 2, none⟩ = some (.int .i64 0) := (blk_cell BK712.out 2).trans rfl; have hfz32_0 := blk_frozen BK712.out 0; have hfz32_1 := blk_frozen BK712.out 1; have hfz32_2 := blk_frozen BK712.out 2; have hcz33_0 : w30.cell? ⟨gb707, 0, none⟩ = some (.int .i64 t703) := (blk_cell BK707.out 0).trans rfl; have hcz33_1 : w30.cell? ⟨gb707, 1, none⟩ = some (.int .i64 t704) := (blk_cell BK707.out 1).trans rfl; have hcz33_2 : w30.cell? ⟨gb707, 2, none⟩ = some (.int .i64 t705) := (blk_cell BK707.out 2).trans rfl; have hfz33_0 := blk_frozen BK707.out 0; have hfz33_1 := blk_frozen BK707.out 1; have hfz33_2 := blk_frozen BK707.out 2) | ((with_reducible refine gate_callee (f := 53) rfl ?_); refine goesL_ (some 23) rfl rfl Try.func53 (by kernel_rfl) rfl #[.agg #[.int .i64 t708, .int .i64 t709, .int .i64 t710], .agg #[.int .i64 t703, .int .i64 t704, .int .i64 t705]] rfl (by (try simp only [List.map_toArray, List.map_cons, List.map_nil]); first | done | rfl | (simp only [List.length_drop, List.length_take]; rfl)) ?_; (with_reducible refine (laws_eqNote.calls t708 t709 t710 t703 t704 t705 false _ A5.out).mono ?_); rintro e w34 ⟨rfl, hb⟩; refine ⟨_, rfl, ?_⟩; have n0_ := Aside0.mk (blk_below (g := gb707) (o := .cells #[.int .i64 t703, .int .i64 t704, .int .i64 t705] 64 (0, 0)) (by (with_reducible repeat (first | refine blk_drewN ?_ _ | refine blk_drew ?_ | refine blk_alloc ?_ _)); refine blk_far ?_ NB707_712.out _; (with_reducible repeat (first | refine blk_drewN ?_ _ | refine blk_drew ?_ | refine blk_alloc ?_ _)); refine blk_far ?_ NB707_712.out _; (with_reducible repeat (first | refine blk_drewN ?_ _ | refine blk_drew ?_ | refine blk_alloc ?_ _)); refine blk_far ?_ NB707_712.out _; (with_reducible repeat (first | refine blk_drewN ?_ _ | refine blk_drew ?_ | refine blk_alloc ?_ _)); exact BK707.out) hb); have n1_ := Aside0.mk (blk_below (g := gb712) (o := .cells #[.int .i64 t708, .int .i64 t709, .int .i64 t710] 64 (0, 0)) (by (with_reducible repeat (first | refine blk_drewN ?_ _ | refine blk_drew ?_ | refine blk_alloc ?_ _)); refine blk_put (cs := #[.int .i64 t708, .int .i64 t709, .int .i64 0]) ?_ 2 _ rfl; (with_reducible repeat (first | refine blk_drewN ?_ _ | refine blk_drew ?_ | refine blk_alloc ?_ _)); refine blk_put (cs := #[.int .i64 t708, .int .i64 0, .int .i64 0]) ?_ 1 _ rfl; (with_reducible repeat (first | refine blk_drewN ?_ _ | refine blk_drew ?_ | refine blk_alloc ?_ _)); refine blk_put (cs := #[.int .i64 0, .int .i64 0, .int .i64 0]) ?_ 0 _ rfl; (with_reducible repeat (first | refine blk_drewN ?_ _ | refine blk_drew ?_ | refine blk_alloc ?_ _)); exact BK712.out) hb); have n2_ := Aside0.mk (below_step (by repeat (first | (with_reducible first | exact HB.out | apply below_alloc | apply pw_below_drewN | apply below_drew1 | refine below_set ?_ GE707.out | refine below_set ?_ GE712.out) | exact HB.out)) hb); clear BK707; clear BK712; clear HB; have BK707 := n0_; have BK712 := n1_; have HB := n2_; clear n0_ n1_ n2_; (try clear hb); (try clear hb2); (try clear hk); (try clear hi)))
  go_ret
  exact ⟨by first | rfl | (simp [errW_none, errW_some] <;> rfl) | (simp [*, errW_none, errW_some] <;> rfl), by repeat (first | (with_reducible first | exact HB.out | apply below_alloc | apply pw_below_drewN | apply below_drew1 | refine below_set ?_ GE707.out | refine below_set ?_ GE712.out) | exact HB.out)⟩
end Go.Proofs.Ytiophiipmgpaeaa.F

namespace Go.Proofs.Ytiophiipmgpaeaa.Opened
open Go.ChangeShapes Go.WideShapes Go.Deep Go.RowKit Go.Joins Go.Proofs.YtiophiipmgpaeaaW.PrintWords
set_option linter.unusedVariables false
def I64 (n : Int) : Prop := -9223372036854775808 ≤ n ∧ n ≤ 9223372036854775807
theorem i64_of {n : Int} (h : (Lit.int .i64 n).wf = true) : I64 n := bounds_i64 h
section
variable {H : Type} {enc : TypeId × Value → H} {P : Program} {w : World} {base : Nat} {spare : Nat → Bool} {held : Bool}
def Fits (enc : TypeId × Value → H) (P : Program) (w : World) (base : Nat) (spare : Nat → Bool) (held : Bool) (fs : Array Field) (vs : List Value) : Prop :=
  vs.length = fs.size ∧ ∀ (j : Nat) (f : Field) (v : Value), fs[j]? = some f → vs[j]? = some v → ∃ (n : Nat) (y : DataW H × List MemPlace), DataW.trod enc P w base spare held n f.type [v] = some y
theorem Fits.int {fs : Array Field} {vs : List Value} (h : Fits enc P w base spare held fs vs) {j : Nat} {f : Field} (hf : fs[j]? = some f) (ht : P.underlying f.type = some (.int .i64)) : ∃ n, vs[j]? = some (.int .i64 n) ∧ I64 n := by
  have hj : j < vs.length := by rw [h.1]; exact (Array.getElem?_eq_some_iff.1 hf).1
  obtain ⟨m, y, hy⟩ := h.2 j f _ hf (List.getElem?_eq_getElem hj)
  obtain ⟨n, e, _, hw⟩ := DataW.trod_int ht hy
  simp only [List.cons.injEq, and_true] at e
  exact ⟨n, by rw [List.getElem?_eq_getElem hj, e], i64_of hw⟩
theorem Fits.bool {fs : Array Field} {vs : List Value} (h : Fits enc P w base spare held fs vs) {j : Nat} {f : Field} (hf : fs[j]? = some f) (ht : P.underlying f.type = some .bool) : ∃ b, vs[j]? = some (.bool b) := by
  have hj : j < vs.length := by rw [h.1]; exact (Array.getElem?_eq_some_iff.1 hf).1
  obtain ⟨m, y, hy⟩ := h.2 j f _ hf (List.getElem?_eq_getElem hj)
  obtain ⟨n, e, _⟩ := DataW.trod_bool ht hy
  simp only [List.cons.injEq, and_true] at e
  exact ⟨n, by rw [List.getElem?_eq_getElem hj, e]⟩
end
end Go.Proofs.Ytiophiipmgpaeaa.Opened

namespace Go.Proofs.Ytiophiipmgpaeaa.F
open Go.RowKit Go.Proofs.Ytiophiipmgpaeaa.Opened Go.Proofs.YtiophiipmgpaeaaW.PrintWords Go.Proofs.YtiophiipmgpaeaaW.PrintLast
set_option linter.unusedVariables false
set_option linter.unusedSimpArgs false
theorem w1 {n m : Nat} (h : n < m) (hm : m ≤ 9223372036854775807) : wrap64 ((n : Int) + 1) = ((n + 1 : Nat) : Int) := by unfold wrap64; omega
end Go.Proofs.Ytiophiipmgpaeaa.F

namespace Go.Proofs.Ytiophiipmgpaeaa.F
open Go.RowKit Go.Proofs.Ytiophiipmgpaeaa.Opened Go.Proofs.YtiophiipmgpaeaaW.PrintWords Go.Proofs.YtiophiipmgpaeaaW.PrintLast Go.Proofs.YtiophiipmgpaeaaW.PrintMore
set_option linter.unusedVariables false
set_option linter.unusedSimpArgs false
theorem altI_cases (q : Int → Int → Int → Bool) (o s : Int) (d : NoteR) : ∀ (n : Nat) (a : Int), (altI q o s n a d = d ∧ ∀ b, a ≤ b → b < a + n → (isNoteI s b o && q s b o) = false) ∨ (∃ b, altI q o s n a d = (s, b, o, true) ∧ isNoteI s b o = true ∧ q s b o = true)
  | 0, a => Or.inl ⟨rfl, fun b h1 h2 => by omega⟩
  | n + 1, a => by
    by_cases c : (isNoteI s a o && q s a o) = true
    · refine Or.inr ⟨a, by rw [altI, if_pos c], ?_⟩
      rw [Bool.and_eq_true] at c
      exact c
    · have e : altI q o s (n + 1) a d = altI q o s n (a + 1) d := by rw [altI, if_neg c]
      rw [e]
      rcases altI_cases q o s d n (a + 1) with ⟨h1, h2⟩ | h
      · refine Or.inl ⟨h1, fun b b1 b2 => ?_⟩
        by_cases hb : b = a
        · subst hb
          simpa using c
        · exact h2 b (by omega) (by omega)
      · exact Or.inr h
theorem isNoteI_small {s a o : Int} (h : isNoteI s a o = true) : (0 ≤ s ∧ s ≤ 6) ∧ (-2 ≤ a ∧ a ≤ 2) ∧ (0 ≤ o ∧ o ≤ 8) ∧ (12 ≤ pitI s a o ∧ pitI s a o ≤ 120) := by
  unfold isNoteI at h
  simp only [Bool.and_eq_true, decide_eq_true_eq] at h
  exact h
theorem stepI_cases (q : Int → Int → Int → Bool) (o : Int) (d : NoteR) : ∀ (n : Nat) (s : Int), (stepI q o n s d = d ∧ ∀ t b, s ≤ t → t < s + n → (isNoteI t b o && q t b o) = false) ∨ (∃ t b, stepI q o n s d = (t, b, o, true) ∧ isNoteI t b o = true ∧ q t b o = true)
  | 0, s => Or.inl ⟨rfl, fun t b h1 h2 => by omega⟩
  | n + 1, s => by
    have e : stepI q o (n + 1) s d = altI q o s 5 (-2) (stepI q o n (s + 1) d) := rfl
    rw [e]
    rcases altI_cases q o s (stepI q o n (s + 1) d) 5 (-2) with ⟨h1, h2⟩ | ⟨b, hb⟩
    · rw [h1]
      rcases stepI_cases q o d n (s + 1) with ⟨g1, g2⟩ | h
      · refine Or.inl ⟨g1, fun t b t1 t2 => ?_⟩
        by_cases ht : t = s
        · subst ht
          by_cases hn : isNoteI t b o = true
          · have := isNoteI_small hn
            exact h2 b (by omega) (by omega)
          · simp only [Bool.not_eq_true] at hn
            rw [hn]
            rfl
        · exact g2 t b (by omega) (by omega)
      · exact Or.inr h
    · exact Or.inr ⟨s, b, hb⟩
theorem octI_cases' (q : Int → Int → Int → Bool) : ∀ (n : Nat) (o : Int), (octI q n o = (0, 0, 0, false) ∧ ∀ u t b, o ≤ u → u < o + n → (isNoteI t b u && q t b u) = false) ∨ (∃ u t b, octI q n o = (t, b, u, true) ∧ isNoteI t b u = true ∧ q t b u = true)
  | 0, o => Or.inl ⟨rfl, fun u t b h1 h2 => by omega⟩
  | n + 1, o => by
    have e : octI q (n + 1) o = stepI q o 7 0 (octI q n (o + 1)) := rfl
    rw [e]
    rcases stepI_cases q o (octI q n (o + 1)) 7 0 with ⟨h1, h2⟩ | ⟨t, b, hb⟩
    · rw [h1]
      rcases octI_cases' q n (o + 1) with ⟨g1, g2⟩ | h
      · refine Or.inl ⟨g1, fun u t b u1 u2 => ?_⟩
        by_cases hu : u = o
        · subst hu
          by_cases hn : isNoteI t b u = true
          · have := isNoteI_small hn
            exact h2 t b (by omega) (by omega)
          · simp only [Bool.not_eq_true] at hn
            rw [hn]
            rfl
        · exact g2 u t b (by omega) (by omega)
      · exact Or.inr h
    · exact Or.inr ⟨o, t, b, hb⟩
theorem octI_cases (q : Int → Int → Int → Bool) : (octI q 9 0 = (0, 0, 0, false) ∧ ∀ t b u, isNoteI t b u = true → q t b u = false) ∨ (∃ t b u, octI q 9 0 = (t, b, u, true) ∧ isNoteI t b u = true ∧ q t b u = true) := by
  rcases octI_cases' q 9 0 with ⟨h1, h2⟩ | ⟨u, t, b, h⟩
  · refine Or.inl ⟨h1, fun t b u hn => ?_⟩
    have := isNoteI_small hn
    have := h2 u t b (by omega) (by omega)
    rw [hn] at this
    simpa using this
  · exact Or.inr ⟨t, b, u, h⟩
def shStep (m : Int) : Int := if m < 2 then 0 else if m < 4 then 1 else if m < 5 then 2 else if m < 7 then 3 else if m < 9 then 4 else if m < 11 then 5 else 6
def sharpS (p : Int) : NoteR := (shStep (p % 12), p % 12 - halvI (shStep (p % 12)), p / 12 - 1, true)
theorem pitI_mod {s a o p : Int} (h : pitI s a o = p) (ha : 0 ≤ a + halvI s) (hb : a + halvI s < 12) : p % 12 = a + halvI s ∧ p / 12 = o + 1 := by
  unfold pitI at h
  omega
theorem shStep_of {s : Int} (hs : 0 ≤ s ∧ s ≤ 6) : shStep (halvI s) = s := by
  have c1 : s = 0 ∨ s = 1 ∨ s = 2 ∨ s = 3 ∨ s = 4 ∨ s = 5 ∨ s = 6 := by omega
  rcases c1 with rfl | rfl | rfl | rfl | rfl | rfl | rfl <;> rfl
theorem shStep_b (m : Int) : 0 ≤ shStep m ∧ shStep m ≤ 6 := by
  unfold shStep
  repeat' split
  all_goals omega
theorem shStep_a (m : Int) (hm : 0 ≤ m ∧ m < 12) : m - halvI (shStep m) = 0 ∨ m - halvI (shStep m) = 1 := by
  have c1 : m = 0 ∨ m = 1 ∨ m = 2 ∨ m = 3 ∨ m = 4 ∨ m = 5 ∨ m = 6 ∨ m = 7 ∨ m = 8 ∨ m = 9 ∨ m = 10 ∨ m = 11 := by omega
  rcases c1 with rfl | rfl | rfl | rfl | rfl | rfl | rfl | rfl | rfl | rfl | rfl | rfl <;> decide
theorem shStep_1 {s : Int} (hs : 0 ≤ s ∧ s ≤ 6) (h : (1 + halvI s) - halvI (shStep (1 + halvI s)) ≠ 0) : shStep (1 + halvI s) = s := by
  have c1 : s = 0 ∨ s = 1 ∨ s = 2 ∨ s = 3 ∨ s = 4 ∨ s = 5 ∨ s = 6 := by omega
  rcases c1 with rfl | rfl | rfl | rfl | rfl | rfl | rfl <;> first | rfl | exact absurd rfl h
theorem sharpS_note {p : Int} (hp : 12 ≤ p ∧ p ≤ 119) : isNoteI (sharpS p).1 (sharpS p).2.1 (sharpS p).2.2.1 = true ∧ pitI (sharpS p).1 (sharpS p).2.1 (sharpS p).2.2.1 = p := by
  have hm : 0 ≤ p % 12 ∧ p % 12 < 12 := by omega
  have h1 := shStep_b (p % 12)
  have h2 := shStep_a (p % 12) hm
  have e : pitI (sharpS p).1 (sharpS p).2.1 (sharpS p).2.2.1 = p := by
    unfold sharpS pitI
    show 12 * (p / 12 - 1 + 1) + (p % 12 - halvI (shStep (p % 12))) + halvI (shStep (p % 12)) = p
    omega
  refine ⟨?_, e⟩
  unfold isNoteI
  rw [e]
  unfold sharpS
  simp only [Bool.and_eq_true, decide_eq_true_eq]
  omega
theorem ssI_eq {p : Int} (hp : 12 ≤ p ∧ p ≤ 119) : ssI p 2 0 = sharpS p := by
  have hm : 0 ≤ p % 12 ∧ p % 12 < 12 := by omega
  obtain ⟨n1, n2⟩ := sharpS_note hp
  have hal := shStep_a (p % 12) hm
  have f : ∀ al, al = 0 ∨ al = 1 → ∀ t b u, isNoteI t b u = true → qsI p al t b u = true → b = al ∧ pitI t b u = p ∧ (0 ≤ t ∧ t ≤ 6) := by
    intro al ha t b u hn hq
    unfold qsI at hq
    simp only [Bool.and_eq_true, beq_iff_eq] at hq
    have hs := isNoteI_small hn
    exact ⟨hq.2, hq.1, hs.1⟩
  have e0 : ssI p 2 0 = if (octI (qsI p 0) 9 0).2.2.2 = true then octI (qsI p 0) 9 0 else (if (octI (qsI p 1) 9 0).2.2.2 = true then octI (qsI p 1) 9 0 else (0, 0, 0, false)) := rfl
  rw [e0]
  rcases octI_cases (qsI p 0) with ⟨h1, h2⟩ | ⟨t, b, u, h1, h2, h3⟩
  · rw [h1, if_neg (by simp)]
    have hne : p % 12 - halvI (shStep (p % 12)) ≠ 0 := by
      intro h0
      have hq := h2 _ _ _ n1
      unfold qsI at hq
      rw [n2, beq_self_eq_true, Bool.true_and] at hq
      have : ((sharpS p).2.1 == 0) = true := by rw [beq_iff_eq]; exact h0
      rw [this] at hq
      exact absurd hq (by simp)
    rcases octI_cases (qsI p 1) with ⟨g1, g2⟩ | ⟨t, b, u, g1, g2, g3⟩
    · exfalso
      have hq := g2 _ _ _ n1
      unfold qsI at hq
      rw [n2, beq_self_eq_true, Bool.true_and] at hq
      have : ((sharpS p).2.1 == 1) = true := by
        rw [beq_iff_eq]
        show p % 12 - halvI (shStep (p % 12)) = 1
        omega
      rw [this] at hq
      exact absurd hq (by simp)
    · rw [g1, if_pos rfl]
      obtain ⟨k1, k5, k4⟩ := f 1 (Or.inr rfl) t b u g2 g3
      subst k1
      have hb := halvI_b t
      have h6 : halvI t ≠ 11 := by
        intro h6
        unfold pitI at k5
        have : p % 12 = 0 := by omega
        rw [this] at hne
        exact hne rfl
      obtain ⟨k2, k3⟩ := pitI_mod k5 (by omega) (by omega)
      rw [k2] at hne
      have := shStep_1 k4 hne
      unfold sharpS
      rw [k2, k3, this]
      congr 1
      congr 1
      · omega
      · congr 1
        omega
  · rw [h1, if_pos rfl]
    obtain ⟨k1, k5, k4⟩ := f 0 (Or.inl rfl) t b u h2 h3
    subst k1
    have hb := halvI_b t
    obtain ⟨k2, k3⟩ := pitI_mod k5 (by omega) (by omega)
    rw [Int.zero_add] at k2
    have := shStep_of k4
    unfold sharpS
    rw [k2, k3, this]
    congr 1
    congr 1
    · omega
    · congr 1
      omega
theorem sIn_ok (a b c : Int) : spec_l1In.f a b c = some (decide (b ≤ a ∧ a ≤ c)) := by
  unfold spec_l1In.f
  by_cases h1 : b ≤ a <;> by_cases h2 : a ≤ c <;> simp [h1, h2]
theorem sPitch_ok {s a o : Int} (hs : 0 ≤ s ∧ s ≤ 6) (ha : -100 ≤ a ∧ a ≤ 100) (ho : -1000 ≤ o ∧ o ≤ 1000) : spec_l5Pitch.f s a o = some (pitI s a o) := by
  have hb := halvI_b s
  have e : rd ([0, 2, 4, 5, 7, 9, 11] : List Int) s = halvI s := by
    have c1 : s = 0 ∨ s = 1 ∨ s = 2 ∨ s = 3 ∨ s = 4 ∨ s = 5 ∨ s = 6 := by omega
    rcases c1 with rfl | rfl | rfl | rfl | rfl | rfl | rfl <;> rfl
  unfold spec_l5Pitch.f spec_l5Base.f pitI
  rw [Option.bind_some, if_pos hs.1, if_pos (show s < (([0, 2, 4, 5, 7, 9, 11] : List Int).length : Int) from by show s < 7; omega), e, wq (x := o + 1) (by omega) (by omega), wq (x := 12 * (o + 1)) (by omega) (by omega), wq (x := 12 * (o + 1) + halvI s) (by omega) (by omega), wq (by omega) (by omega)]
  congr 1
  omega
theorem sNote_ok (s a o : Int) : spec_IsNote.f s a o = some (isNoteI s a o) := by
  unfold spec_IsNote.f isNoteI
  rw [sIn_ok, sIn_ok, sIn_ok]
  simp only [Option.bind_some]
  by_cases h1 : 0 ≤ s ∧ s ≤ 6
  · by_cases h2 : -2 ≤ a ∧ a ≤ 2
    · by_cases h3 : 0 ≤ o ∧ o ≤ 8
      · rw [if_pos (decide_eq_true h1), if_pos (decide_eq_true h2), if_pos (decide_eq_true h3), sPitch_ok h1 (by omega) (by omega), Option.bind_some, sIn_ok, Option.bind_some, decide_eq_true h1, decide_eq_true h2, decide_eq_true h3]
        rfl
      · rw [if_pos (decide_eq_true h1), if_pos (decide_eq_true h2), if_neg (by rw [decide_eq_false h3]; simp), decide_eq_false h3, decide_eq_true h1, decide_eq_true h2]
        rfl
    · rw [if_pos (decide_eq_true h1), if_neg (by rw [decide_eq_false h2]; simp), decide_eq_false h2, decide_eq_true h1]
      rfl
  · rw [if_neg (by rw [decide_eq_false h1]; simp), decide_eq_false h1]
    rfl
theorem sPitchOf_ok (s a o : Int) : spec_PitchOf.f s a o = some (if isNoteI s a o = true then pitI s a o else -1) := by
  unfold spec_PitchOf.f
  rw [sNote_ok, Option.bind_some]
  by_cases h : isNoteI s a o = true
  · have := isNoteI_b h
    rw [if_pos h, if_pos h, sPitch_ok this.1 this.2.1 this.2.2]
    rfl
  · rw [if_neg h, if_neg h]
theorem sKey_ok (k : Int) : spec_IsKey.f k = some (decide (-7 ≤ k ∧ k ≤ 7)) := by
  unfold spec_IsKey.f
  rw [sIn_ok]
  rfl
theorem LeO_up {α : Type} (f : Nat → Option α) (h : ∀ k, LeO (f k) (f (k + 1))) (n : Nat) (r : α) (hn : f n = some r) : ∀ m, f (n + m) = some r
  | 0 => hn
  | m + 1 => h (n + m) r (LeO_up f h n r hn m)
theorem sAlter_fin : ∀ (i : Fin 15) (j : Fin 7), spec_AlterIn.f 40 ((i.val : Int) - 7) (j.val : Int) = some (alterI ((i.val : Int) - 7) (j.val : Int)) := by decide +kernel
theorem sAlter_ok (k s : Int) (n : Nat) : spec_AlterIn.f (40 + n) k s = some (alterI k s) := by
  by_cases h1 : -7 ≤ k ∧ k ≤ 7
  · by_cases h2 : 0 ≤ s ∧ s ≤ 6
    · have := sAlter_fin ⟨(k + 7).toNat, by omega⟩ ⟨s.toNat, by omega⟩
      rw [show (((k + 7).toNat : Nat) : Int) - 7 = k by omega, show ((s.toNat : Nat) : Int) = s by omega] at this
      exact LeO_up (fun q => spec_AlterIn.f q k s) (fun q => spec_AlterIn.mono k s q) 40 _ this n
    · unfold spec_AlterIn.f alterI
      rw [sKey_ok, sIn_ok, show 40 + n = (39 + n) + 1 by omega]
      simp only [Option.bind_some, spec_AlterIn.j0]
      rw [if_pos (decide_eq_true h1), decide_eq_false h2, if_pos (c := (!false) = true) rfl, if_neg (fun h => h2 h.2)]
  · unfold spec_AlterIn.f alterI
    rw [sKey_ok, show 40 + n = (39 + n) + 1 by omega]
    simp only [Option.bind_some, spec_AlterIn.j0]
    rw [if_neg (by rw [decide_eq_false h1]; simp), if_pos trivial, if_neg (fun h => h1 h.1)]
theorem sSharp_no (p : Int) (hp : ¬ (12 ≤ p ∧ p ≤ 119)) (k : Nat) : spec_SpellSharp.f k p = some (0, 0, 0, false) := by
  unfold spec_SpellSharp.f
  rw [sIn_ok, Option.bind_some, if_neg (by rw [decide_eq_false hp]; simp)]
set_option maxRecDepth 10000 in
theorem sSharp_ok (p : Int) (hp : 12 ≤ p ∧ p ≤ 119) (k : Nat) : spec_SpellSharp.f (k + 8) p = some (sharpS p) := by
  unfold spec_SpellSharp.f
  rw [sIn_ok, Option.bind_some, if_pos (decide_eq_true hp)]
  have e1 : Int.tmod p 12 = p % 12 := Int.tmod_eq_emod_of_nonneg (by omega)
  have e2 : Int.tdiv p 12 = p / 12 := Int.tdiv_eq_ediv_of_nonneg (by omega)
  rw [e2, wq (x := p / 12) (by omega) (by omega), wq (x := p / 12 - 1) (by omega) (by omega)]
  unfold sharpS
  have c1 : p % 12 = 0 ∨ p % 12 = 1 ∨ p % 12 = 2 ∨ p % 12 = 3 ∨ p % 12 = 4 ∨ p % 12 = 5 ∨ p % 12 = 6 ∨ p % 12 = 7 ∨ p % 12 = 8 ∨ p % 12 = 9 ∨ p % 12 = 10 ∨ p % 12 = 11 := by omega
  generalize p / 12 - 1 = o
  rcases c1 with e | e | e | e | e | e | e | e | e | e | e | e <;> simp +decide [spec_SpellSharp.l0, spec_l5Base.f, e1, e, rd, wrap64, shStep, halvI]
theorem alt_key (p k o s : Int) (d : NoteR) (hk : -7 ≤ k ∧ k ≤ 7) : altI (qkI p k) o s 5 (-2) d = if (isNoteI s (alterI k s) o && (pitI s (alterI k s) o == p)) = true then (s, alterI k s, o, true) else d := by
  have hq : ∀ b, (isNoteI s b o && qkI p k s b o) = true ↔ b = alterI k s ∧ (isNoteI s (alterI k s) o && (pitI s (alterI k s) o == p)) = true := by
    intro b
    unfold qkI inKeyI
    rw [decide_eq_true hk]
    simp only [Bool.and_eq_true, beq_iff_eq, Bool.true_and]
    constructor
    · rintro ⟨h1, h2, h3, h4⟩
      subst h4
      exact ⟨rfl, h1, h2⟩
    · rintro ⟨rfl, h1, h2⟩
      exact ⟨h1, h2, h1, rfl⟩
  have hs : -1 ≤ alterI k s ∧ alterI k s ≤ 1 := by
    unfold alterI
    repeat' split
    all_goals omega
  rcases altI_cases (qkI p k) o s d 5 (-2) with ⟨h1, h2⟩ | ⟨b, h1, h2, h3⟩
  · rw [h1, if_neg]
    intro hc
    have := h2 (alterI k s) (by omega) (by omega)
    rw [(hq _).mpr ⟨rfl, hc⟩] at this
    exact absurd this (by simp)
  · obtain ⟨rfl, hc⟩ := (hq b).mp (by rw [h2, h3]; rfl)
    rw [h1, if_pos hc]
def finN (y r : NoteR) : NoteR := if r.2.2.2 = true then r else y
theorem step_fin (p k : Int) (hk : -7 ≤ k ∧ k ≤ 7) (o : Int) (y d : NoteR) : ∀ (n : Nat) (s : Int), finN y (stepI (qkI p k) o n s d) = stepI (qkI p k) o n s (finN y d)
  | 0, s => rfl
  | n + 1, s => by
    have ih := step_fin p k hk o y d n (s + 1)
    show finN y (altI (qkI p k) o s 5 (-2) (stepI (qkI p k) o n (s + 1) d)) = altI (qkI p k) o s 5 (-2) (stepI (qkI p k) o n (s + 1) (finN y d))
    rw [alt_key p k o s _ hk, alt_key p k o s _ hk, ← ih]
    split
    · rfl
    · rfl
theorem sIn_l1 (p k : Int) (hp : 12 ≤ p) (hk : -7 ≤ k ∧ k ≤ 7) (y1 y2 y3 : Int) (o : Int) (D : NoteR) (F : Nat) (hD : ∀ m, spec_SpellIn.l0 (F + m) k p (o + 1) y1 y2 y3 = some D) (ho : 0 ≤ o ∧ o ≤ 8) : ∀ (n : Nat) (s : Int), s + n = 7 → 0 ≤ s → ∀ m, spec_SpellIn.l1 (F + 41 + n + m) k p o s y1 y2 y3 = some (stepI (qkI p k) o n s D)
  | 0, s, h1, h2, m => by
    rw [show F + 41 + 0 + m = (F + (40 + m)) + 1 by omega, spec_SpellIn.l1, if_neg (by omega), wq (x := o + 1) (by omega) (by omega)]
    exact hD (40 + m)
  | n + 1, s, h1, h2, m => by
    rw [show F + 41 + (n + 1) + m = (F + 41 + n + m) + 1 by omega, spec_SpellIn.l1, if_pos (by omega), show F + 41 + n + m = 40 + (F + 1 + n + m) by omega, sAlter_ok, Option.bind_some, sPitchOf_ok, Option.bind_some, ← show F + 41 + n + m = 40 + (F + 1 + n + m) by omega, wq (x := s + 1) (by omega) (by omega), sIn_l1 p k hp hk y1 y2 y3 o D F hD ho n (s + 1) (by omega) (by omega) m]
    show _ = some (altI (qkI p k) o s 5 (-2) (stepI (qkI p k) o n (s + 1) D))
    rw [alt_key p k o s _ hk]
    by_cases hn : isNoteI s (alterI k s) o = true
    · rw [if_pos hn, hn, Bool.true_and]
      by_cases he : pitI s (alterI k s) o = p
      · rw [if_pos he, if_pos (by simpa using he)]
      · rw [if_neg he, if_neg (by simpa using he)]
    · rw [if_neg hn, if_neg (by omega), if_neg (by simp only [Bool.not_eq_true] at hn; rw [hn]; simp)]
theorem sIn_l0 (p k : Int) (hp : 12 ≤ p) (hk : -7 ≤ k ∧ k ≤ 7) (y1 y2 y3 : Int) : ∀ (n : Nat) (o : Int), o + n = 9 → 0 ≤ o → ∀ m, spec_SpellIn.l0 (50 * n + 1 + m) k p o y1 y2 y3 = some (finN (y1, y2, y3, true) (octI (qkI p k) n o))
  | 0, o, h1, h2, m => by
    rw [show 50 * 0 + 1 + m = m + 1 by omega, spec_SpellIn.l0, if_neg (by omega)]
    rfl
  | n + 1, o, h1, h2, m => by
    have ih := sIn_l0 p k hp hk y1 y2 y3 n (o + 1) (by omega) (by omega)
    rw [show 50 * (n + 1) + 1 + m = (50 * n + 1 + 41 + 7 + (m + 1)) + 1 by omega, spec_SpellIn.l0, if_pos (by omega), sIn_l1 p k hp hk y1 y2 y3 o _ (50 * n + 1) ih (by omega) 7 0 (by omega) (by omega)]
    show _ = some (finN (y1, y2, y3, true) (stepI (qkI p k) o 7 0 (octI (qkI p k) n (o + 1))))
    rw [step_fin p k hk]
theorem sSpell_ok (k p : Int) (m : Nat) : ∃ r, spec_SpellIn.f (500 + m) k p = some r ∧ impl_SpellIn.f k p = some r := by
  unfold spec_SpellIn.f impl_SpellIn.f
  by_cases hp : 12 ≤ p ∧ p ≤ 119
  · rw [show 500 + m = (492 + m) + 8 by omega, sSharp_ok p hp, Option.bind_some, if_pos (show (sharpS p).2.2.2 = true from rfl), sKey_ok, Option.bind_some]
    by_cases hk : -7 ≤ k ∧ k ≤ 7
    · refine ⟨spellI k p, ?_, by rw [if_pos hk, if_pos hp]⟩
      rw [decide_eq_true hk, show 492 + m + 8 = (50 * 9 + 1 + (48 + m)) + 1 by omega, spec_SpellIn.j0, if_neg (by simp), sIn_l0 p k hp.1 hk _ _ _ 9 0 (by omega) (by omega)]
      unfold spellI finN
      rw [ssI_eq hp]
      rfl
    · refine ⟨(0, 0, 0, false), ?_, by rw [if_neg hk]⟩
      rw [decide_eq_false hk, show 492 + m + 8 = (499 + m) + 1 by omega, spec_SpellIn.j0, if_pos (c := (!false) = true) rfl]
  · refine ⟨(0, 0, 0, false), ?_, ?_⟩
    · rw [sSharp_no p hp, Option.bind_some, if_neg (by simp), show 500 + m = (499 + m) + 1 by omega, spec_SpellIn.j0, if_pos rfl]
    · rw [if_neg hp]
      split <;> rfl
end Go.Proofs.Ytiophiipmgpaeaa.F

namespace Go.Proofs.Ytiophiipmgpaeaa.Pure
open Go.RowKit Go.Proofs.Ytiophiipmgpaeaa.F Go.Proofs.Ytiophiipmgpaeaa.Opened Go.Proofs.YtiophiipmgpaeaaW.PrintWords Go.Proofs.YtiophiipmgpaeaaW.PrintLast Go.Proofs.YtiophiipmgpaeaaW.PrintMore
set_option linter.unusedVariables false
set_option linter.unusedSimpArgs false
theorem pure_FnExactSpellIn (a0 a1 : Int) (h0 : I64 a0) (h1 : I64 a1) : ∃ k, laws_FnExactSpellIn.f k a0 a1 = some true := by
  refine ⟨500 + 0, ?_⟩
  obtain ⟨⟨r1, r2, r3, r4⟩, e1, e2⟩ := sSpell_ok a0 a1 0
  unfold laws_FnExactSpellIn.f
  rw [e1, e2]
  simp only [Option.bind_some, laws_eqNote.f, if_true]
  rw [if_neg (by simp)]
end Go.Proofs.Ytiophiipmgpaeaa.Pure

namespace Go.Proofs.Ytiophiipmgpaeaa.fnExactSpellIn
open Go.ChangeShapes Go.WideShapes Go.ChangeAt Go.RowKit Go.Joins Go.Proofs.YtiophiipmgpaeaaW.PrintWords Go.Proofs.Ytiophiipmgpaeaa.Opened Go.Proofs.Ytiophiipmgpaeaa.F
open Go.ChangeMaps (open_string shut_string)
set_option linter.unusedVariables false
theorem own : ownKnob Try.prog.godebug = none := by kernel_rfl
set_option maxRecDepth 100000 in
theorem lifted (os : Os) (started : os.Started) (H : Type) (enc : TypeId × Value → H) :
    ReturnsInHanded {} Try.checked os 10 .any (Rows.fnExactSpellInSpec.pre6 enc Try.prog Try.f10 Rows.fnExactSpellInRow.domain false) (Rows.fnExactSpellInSpec.post enc Try.prog Try.f10 false true false false) := by
  refine returnsInHanded_of_change_sized (C := Try.checked) own started (by kernel_rfl) Try.func10
    (ChangeSpec.witness6 (enc := enc) (C := Try.checked) false ⟨#[], #[.int .i64 0, .int .i64 0], []⟩ 8 (by kernel_rfl) (by kernel_rfl) (by kernel_rfl) (by kernel_rfl)) ?_
  intro W base args ds gs before hval0 hW hcnd hsz0 _
  have hval : ∀ (j : Nat) t v, Try.f10.params[j]? = some t → args[j]? = some v → Value.okWide Try.prog W .any base t v := hval0
  have hW' := hW
  obtain ⟨p, q, hA0, hV, rfl, hfz, hnd⟩ := hW
  have hA : DataW.TrodAll enc Try.prog W 0 (fun _ => true) true Try.f10.params.toList args.toList ds p := hA0
  rw [Try.params10] at hA hval
  obtain ⟨v0, vs0, d0, ds0, p0, q0, hargs, rfl, rfl, h0, r0⟩ := trodAll_cons hA
  obtain ⟨v1, vs1, d1, ds1, p1, q1, rfl, rfl, rfl, h1, r1⟩ := trodAll_cons r0
  obtain ⟨rfl, rfl, rfl⟩ := trodAll_nil r1
  obtain rfl : args = #[v0, v1] := by cases args; simp_all
  obtain ⟨rfl, rfl⟩ := trodVars_none hV
  obtain ⟨a0, rfl, rfl, rfl, w0⟩ := open_int Try.underlying3 (hval 0 3 v0 rfl rfl) h0
  obtain ⟨a1, rfl, rfl, rfl, w1⟩ := open_int Try.underlying3 (hval 1 3 v1 rfl rfl) h1
  clear hA0 hval0 hsz0
  obtain ⟨kk, hp⟩ := Pure.pure_FnExactSpellIn a0 a1 (i64_of w0) (i64_of w1)
  refine (laws_FnExactSpellIn.calls kk a0 a1 true W  hp).mono fun e W' ⟨he, bel0⟩ => ?_
  have bel : Below W.heap.size W W' := bel0
  subst he
  exact ⟨_, rfl, _, _, _, [], _, [], hW', trodAll_mk1 (shut_bool Try.underlying4 _), (trodAll_cons_mk (shut_int Try.underlying3 w0) (trodAll_cons_mk (shut_int Try.underlying3 w1) trodAll_mk0)), rfl, bel.frame _, fun h => by cases h⟩
theorem over : Rows.fnExactSpellInRow.holds Try.pinned (OpenSpec.ofChange Rows.fnExactSpellInSpec) :=
  OpenClaim.holds_of_wide 10 Try.f10 rfl rfl rfl rfl rfl rfl rfl ⟨rfl, rfl, rfl, rfl, rfl⟩ rfl rfl rfl rfl rfl (by kernel_rfl) Try.func10 (by kernel_rfl)
    (of_decide_eq_true (by kernel_rfl)) (by unfold Func.isWrapper; first | (rw [if_pos (by decide +kernel)]; kernel_rfl) | (rw [if_neg (by decide +kernel)]; exact ⟨rfl, rfl⟩))
    (fun os started H enc _ => lifted os started H enc)
theorem proved : Rows.FnExactSpellInSaid := over
#print axioms proved
end Go.Proofs.Ytiophiipmgpaeaa.fnExactSpellIn
namespace Go.Proofs.Ytiophiipmgpaeaa
theorem fnExactSpellIn_holds : Rows.FnExactSpellInSaid := fnExactSpellIn.proved
end Go.Proofs.Ytiophiipmgpaeaa
