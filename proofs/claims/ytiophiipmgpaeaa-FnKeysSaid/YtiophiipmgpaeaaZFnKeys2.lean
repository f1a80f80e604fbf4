/- FnKeys, part 2 of 4: texts of the claim, joined into one file. -/
import Derived.Test.YtiophiipmgpaeaaZFnKeys1
import Derived.Test.YtiophiipmgpaeaaProg
import Derived.Below
import Derived.Deep.Draws
import Derived.Deep.AppendLies
import Derived.Maps.AppendAt
import Derived.OwnWalk
import Derived.Laws.BytesArg
import Derived.Laws.MakeOwn
import Derived.Laws.OwnMore
import Derived.Deep.OwnRows
import Derived.Tactics
import Derived.Lib.ConvBytes
import Derived.Laws.Slices
import Derived.WalkKit
import Derived.KernelRfl
import Derived.RowKit3
import Derived.Deep.LoopGhost
import Derived.Deep.QuietTactic
import Derived.BigQuiet
import Derived.WideLaws
import Derived.Deep.DeepCutAuto
import Derived.Deep.CutBlock
import Derived.Deep.RegionHeld3
import Derived.Laws.Rows
import Derived.Lib.AppendStr
import Derived.ArgAppend
import Derived.Laws.IdiomCopy
import Derived.OrdersHeld
import Derived.Laws.BitsLemmas
import Derived.RowKit
import Derived.Shelf.Abstract

namespace Go.Proofs.Ytiophiipmgpaeaa.F
open Go.RowKit Go.Proofs.YtiophiipmgpaeaaW.PrintWords Go.Proofs.YtiophiipmgpaeaaW.PrintLast Go.Proofs.YtiophiipmgpaeaaW.PrintMore
attribute [local go_sem] max2_int min2_int max_two min_two max_three min_three max_four min_four
set_option linter.unusedVariables false
set_option linter.unusedSimpArgs false
def errW : Option Int → Value
 | none => .nilIface
 | some c => .iface 0 (.int .i64 c)
theorem errW_none : errW none = .nilIface := rfl
theorem errW_some (c : Int) : errW (some c) = .iface 0 (.int .i64 c) := rfl
structure S105 where
 f0 : Int
 f1 : Int
 f2 : Int
structure S103 where
 f0 : Int
 f1 : Int
 f2 : Int
structure S111 where
 f0 : Int
 f1 : Int
structure S109 where
 f0 : Int
 f1 : Int
structure S120 where
 f0 : Int
 f1 : Int
 f2 : Int
structure S116 where
 f0 : Int
 f1 : Int
 f2 : Int
structure S118 where
 f0 : Int
 f1 : Int
 f2 : Int
 f3 : Int
structure S126 where
 f0 : Int
 f1 : Int
 f2 : Int
 f3 : Int
structure S142 where
 f0 : Int
 f1 : Int
structure S140 where
 f0 : Int
 f1 : Int
structure S154 where
 f0 : Int
 f1 : Int
 f2 : Int
structure S152 where
 f0 : Int
 f1 : Int
structure BelowW (w : World) where
 w2 : World
 h : Below w.heap.size w w2
instance (w : World) : Inhabited (BelowW w) := ⟨⟨w, Below.refl _ w⟩⟩
theorem BelowW.at {w : World} {a : Addr} {v : Value} (hq : w.cell? a = some v) (p : BelowW w) : p.w2.cell? a = some v := (p.h.cell (World.block_lt_of_cell? w _ hq)).trans hq
theorem BelowW.step {w : World} (p : BelowW w) {w1 : World} (hb : Below p.w2.heap.size p.w2 w1) : ∃ q : BelowW w, w1 = q.w2 := ⟨⟨w1, below_step p.h hb⟩, rfl⟩
theorem BelowW.drawn {w : World} (p : BelowW w) {w1 : World} (hb : Drawn0 p.w2 w1) : ∃ q : BelowW w, w1 = q.w2 := p.step hb.below
theorem BelowW.quiet {P : Program} {ops : Array Oper} {C : World → Prop} {Q Q' : Act → Prop} (hQ : ∀ a, Q a → Q' a) : ∀ (l : List Oper) (a : Act), wpQuiet P ops C Q l a → wpQuiet P ops C Q' l a
 | [], a, h => hQ a h
 | o :: l, a, h => by
  unfold wpQuiet at h ⊢
  split
  ·
   rename_i hw
   rw [if_pos hw] at h
   exact Oper.quiet_mono (BelowW.quiet hQ l) h
  ·
   rename_i hw
   rw [if_neg hw] at h
   exact BelowW.quiet hQ l _ h
theorem BelowW.region {P : Program} {id : Nat} {Q : Exit → Act → World → Prop} {a : Act} {w : World} {l : List Oper} (hm : P.follows .mixedOrders = true) (hB : Region.lexB .any l.toArray = true)
  (h : wpQuiet P l.toArray (fun w2 => ∃ p : BelowW w.drew, w2 = p.w2) (fun a' => ∀ w2, Below w.drew.heap.size w.drew w2 → Q .normal a' w2) l a) : (Code.region id l.toArray true).wp P Q a w :=
 wp_region_quiet (C := fun w2 => ∃ p : BelowW w.drew, w2 = p.w2) hm hB ⟨⟨w.drew, Below.refl _ _⟩, rfl⟩ (BelowW.quiet (fun a h w2 hw => by obtain ⟨p, rfl⟩ := hw; exact h _ p.h) _ _ (by simpa using h))
end Go.Proofs.Ytiophiipmgpaeaa.F

namespace Go.Proofs.Ytiophiipmgpaeaa.F
open Go.RowKit Go.Proofs.YtiophiipmgpaeaaW.PrintWords Go.Proofs.YtiophiipmgpaeaaW.PrintLast Go.Proofs.YtiophiipmgpaeaaW.PrintMore
attribute [local go_sem] max2_int min2_int max_two min_two max_three min_three max_four min_four
set_option linter.unusedVariables false
set_option linter.unusedSimpArgs false
def impl_InRange.f (a0 : Int) (a1 : Int) (a2 : Int) : Option (Bool) := if a1 ≤ a0 then (some (decide (a0 ≤ a2))) else (some false)
set_option maxHeartbeats 8000000 in
set_option maxRecDepth 100000 in
theorem impl_InRange.calls (a0 : Int) (a1 : Int) (a2 : Int) (r : Bool) (w : World) (h : impl_InRange.f a0 a1 a2 = some r) :
  Calls Try.prog 82 #[.int .i64 a0, .int .i64 a1, .int .i64 a2] w fun e w' => e = .returned (.bool r) ∧ Drawn0 w w' := by
 have H : (if a1 ≤ a0 then (some (decide (a0 ≤ a2))) else (some false)) = some r := h
 clear h
 by_cases c4 : a1 ≤ a0
 ·
  rw [if_pos c4] at H
  have c4b0 : decide (a1 ≤ a0) = true := decide_eq_true c4
  clear c4
  obtain rfl := Option.some.inj H
  go_enter Try.func82, Try.ntmps82
  go_wp2
  go_ret
  exact ⟨by first | rfl | (simp; done) | (simp [*]; done), by repeat (first | exact Drawn0.refl _ | apply Drawn0.step)⟩
 ·
  rw [if_neg c4] at H
  have c4b0 : decide (a1 ≤ a0) = false := decide_eq_false c4
  clear c4
  obtain rfl := Option.some.inj H
  go_enter Try.func82, Try.ntmps82
  go_wp2
  go_ret
  exact ⟨by first | rfl | (simp; done) | (simp [*]; done), by repeat (first | exact Drawn0.refl _ | apply Drawn0.step)⟩
end Go.Proofs.Ytiophiipmgpaeaa.F

namespace Go.Proofs.Ytiophiipmgpaeaa.F
open Go.RowKit Go.Proofs.YtiophiipmgpaeaaW.PrintWords Go.Proofs.YtiophiipmgpaeaaW.PrintLast Go.Proofs.YtiophiipmgpaeaaW.PrintMore
attribute [local go_sem] max2_int min2_int max_two min_two max_three min_three max_four min_four
set_option linter.unusedVariables false
set_option linter.unusedSimpArgs false
def impl_IsKey.f (a0 : Int) : Option (Bool) := (impl_InRange.f a0 (-7) 7).bind fun t692 => (some t692)
set_option maxHeartbeats 8000000 in
set_option maxRecDepth 100000 in
theorem impl_IsKey.calls (a0 : Int) (r : Bool) (w : World) (h : impl_IsKey.f a0 = some r) :
  Calls Try.prog 79 #[.int .i64 a0] w fun e w' => e = .returned (.bool r) ∧ Drawn0 w w' := by
 have H : ((impl_InRange.f a0 (-7) 7).bind fun t692 => (some t692)) = some r := h
 clear h
 replace H := Option.bind_eq_some_iff.mp H
 obtain ⟨t692, A20, H⟩ := H
 try dsimp only at H
 have A2 := Aside0.mk A20
 clear A20
 obtain rfl := Option.some.inj H
 go_enter Try.func79, Try.ntmps79
 go_wp2_with (first | ((with_reducible refine gate_callee (f := 82) rfl ?_); refine goesL_ (some 4) rfl rfl Try.func82 (by kernel_rfl) rfl #[.int .i64 a0, .int .i64 (-7), .int .i64 7] rfl (by (try simp only [List.map_toArray, List.map_cons, List.map_nil]); first | done | rfl | (simp only [List.length_drop, List.length_take]; rfl)) ?_; (with_reducible refine (impl_InRange.calls a0 (-7) 7 t692 _ A2.out).mono ?_); rintro e w' ⟨rfl, ⟨nd, rfl⟩⟩; refine ⟨_, rfl, ?_⟩))
 go_ret
 exact ⟨by first | rfl | (simp; done) | (simp [*]; done), by repeat (first | exact Drawn0.refl _ | apply Drawn0.step)⟩
end Go.Proofs.Ytiophiipmgpaeaa.F

namespace Go.Proofs.Ytiophiipmgpaeaa.F
open Go.RowKit Go.Proofs.YtiophiipmgpaeaaW.PrintWords Go.Proofs.YtiophiipmgpaeaaW.PrintLast Go.Proofs.YtiophiipmgpaeaaW.PrintMore
attribute [local go_sem] max2_int min2_int max_two min_two max_three min_three max_four min_four
set_option linter.unusedVariables false
set_option linter.unusedSimpArgs false
def halvI (s : Int) : Int := if s = 0 then 0 else if s = 1 then 2 else if s = 2 then 4 else if s = 3 then 5 else if s = 4 then 7 else if s = 5 then 9 else 11
def impl_halves.f (a0 : Int) : Option Int := if 0 ≤ a0 ∧ a0 ≤ 6 then some (halvI a0) else none
set_option maxHeartbeats 8000000 in
set_option maxRecDepth 100000 in
theorem impl_halves.calls (a0 : Int) (r : Int) (w : World) (h : impl_halves.f a0 = some r) :
  Calls Try.prog 141 #[.int .i64 a0] w fun e w' => e = .returned (.int .i64 r) ∧ Drawn0 w w' := by
 unfold impl_halves.f at h
 by_cases c : 0 ≤ a0 ∧ a0 ≤ 6
 ·
  rw [if_pos c] at h
  obtain rfl := Option.some.inj h
  have c1 : a0 = 0 ∨ a0 = 1 ∨ a0 = 2 ∨ a0 = 3 ∨ a0 = 4 ∨ a0 = 5 ∨ a0 = 6 := by omega
  clear h c
  have hidx : ∀ W : World, Sem.run Try.prog (Instr.index 178 (.agg #[.int .i64 0, .int .i64 2, .int .i64 4, .int .i64 5, .int .i64 7, .int .i64 9, .int .i64 11]) (.int .i64 a0)) W = .ok (.int .i64 (halvI a0)) W := by
   intro W
   rcases c1 with rfl | rfl | rfl | rfl | rfl | rfl | rfl <;> kernel_rfl
  clear c1
  go_enter Try.func141, Try.ntmps141
  go_wp2
  go_ret
  exact ⟨rfl, ⟨0, rfl⟩⟩
 ·
  rw [if_neg c] at h
  exact absurd h (by simp)
end Go.Proofs.Ytiophiipmgpaeaa.F

namespace Go.Proofs.Ytiophiipmgpaeaa.F
open Go.RowKit Go.Proofs.YtiophiipmgpaeaaW.PrintWords Go.Proofs.YtiophiipmgpaeaaW.PrintLast Go.Proofs.YtiophiipmgpaeaaW.PrintMore
attribute [local go_sem] max2_int min2_int max_two min_two max_three min_three max_four min_four
set_option linter.unusedVariables false
set_option linter.unusedSimpArgs false
def impl_Note_pitch.f (a0_0 : Int) (a0_1 : Int) (a0_2 : Int) : Option (Int) := (impl_halves.f a0_0).bind fun t694 => (some (wrap64 ((wrap64 ((wrap64 (12 * (wrap64 (a0_2 + 1)))) + a0_1)) + t694)))
set_option maxHeartbeats 8000000 in
set_option maxRecDepth 100000 in
theorem impl_Note_pitch.calls (a0_0 : Int) (a0_1 : Int) (a0_2 : Int) (r : Int) (w : World) (h : impl_Note_pitch.f a0_0 a0_1 a0_2 = some r) :
  Calls Try.prog 105 #[.agg #[.int .i64 a0_0, .int .i64 a0_1, .int .i64 a0_2]] w fun e w' => e = .returned (.int .i64 r) ∧ Below w.heap.size w w' := by
 have hu64 := Try.underlying64
 have HB := Aside0.mk (Below.refl w.heap.size w)
 have H : ((impl_halves.f a0_0).bind fun t694 => (some (wrap64 ((wrap64 ((wrap64 (12 * (wrap64 (a0_2 + 1)))) + a0_1)) + t694)))) = some r := h
 clear h
 replace H := Option.bind_eq_some_iff.mp H
 obtain ⟨t694, A20, H⟩ := H
 try dsimp only at H
 have A2 := Aside0.mk A20
 clear A20
 obtain rfl := Option.some.inj H
 go_enter Try.func105, Try.ntmps105
 go_wp2_with (first | ((with_reducible refine gate_dst (N := 1) rfl ?_); refine box_event ?hg (N := 1) ?hd (cs := #[.int .i64 a0_0, .int .i64 a0_1, .int .i64 a0_2]) (t := 64) ?hr ?_; (case hd => rfl); (case hg => rfl); (case hr => first | (go_simp; done) | (go_simp; rfl)); intro gb693 hg w3 hbox hb; have n0_ := Aside0.mk (below_step (by repeat (first | (with_reducible first | exact HB.out | apply below_alloc | apply pw_below_drewN | apply below_drew1) | exact HB.out)) hb); have n1_ := Aside0.mk (hbox); have n2_ := Aside0.mk ((by rw [hg]; exact (below_size (by repeat (first | (with_reducible first | exact HB.out | apply below_alloc | apply pw_below_drewN | apply below_drew1) | exact HB.out))) : w.heap.size ≤ gb693)); have n3_ := Aside0.mk ((by rw [hg]; exact (below_size (by repeat (first | (with_reducible first | exact HB.out | apply below_alloc | apply pw_below_drewN | apply below_drew1) | exact HB.out))) : w.heap.size ≤ gb693)); clear HB; have HB := n0_; have BK693 := n1_; have GW693 := n2_; have GE693 := n3_; clear n0_ n1_ n2_ n3_; clear hb hbox hg; have hcz4_0 : w3.cell? ⟨gb693, 0, none⟩ = some (.int .i64 a0_0) := (blk_cell BK693.out 0).trans rfl; have hcz4_1 : w3.cell? ⟨gb693, 1, none⟩ = some (.int .i64 a0_1) := (blk_cell BK693.out 1).trans rfl; have hcz4_2 : w3.cell? ⟨gb693, 2, none⟩ = some (.int .i64 a0_2) := (blk_cell BK693.out 2).trans rfl; have hfz4_0 := blk_frozen BK693.out 0; have hfz4_1 := blk_frozen BK693.out 1; have hfz4_2 := blk_frozen BK693.out 2) | (go_at_call 141; (with_reducible refine (impl_halves.calls a0_0 t694 _ A2.out).mono ?_); rintro e w' ⟨rfl, ⟨nd, rfl⟩⟩; (try first | exact ⟨rfl, _, World.drewN_drewN _ _ _⟩ | exact ⟨rfl, _, Eq.trans (World.drewN_drewN _ _ _) (congrArg (World.drewN _) (Nat.add_assoc _ _ _))⟩)))
 repeat (go_quiet (first | ((with_reducible refine gate_dst (N := 1) rfl ?_); refine box_event ?hg (N := 1) ?hd (cs := #[.int .i64 a0_0, .int .i64 a0_1, .int .i64 a0_2]) (t := 64) ?hr ?_; (case hd => rfl); (case hg => rfl); (case hr => first | (go_simp; done) | (go_simp; rfl)); intro gb693 hg w3 hbox hb; have n0_ := Aside0.mk (below_step (by repeat (first | (with_reducible first | exact HB.out | apply below_alloc | apply pw_below_drewN | apply below_drew1) | exact HB.out)) hb); have n1_ := Aside0.mk (hbox); have n2_ := Aside0.mk ((by rw [hg]; exact (below_size (by repeat (first | (with_reducible first | exact HB.out | apply below_alloc | apply pw_below_drewN | apply below_drew1) | exact HB.out))) : w.heap.size ≤ gb693)); have n3_ := Aside0.mk ((by rw [hg]; exact (below_size (by repeat (first | (with_reducible first | exact HB.out | apply below_alloc | apply pw_below_drewN | apply below_drew1) | exact HB.out))) : w.heap.size ≤ gb693)); clear HB; have HB := n0_; have BK693 := n1_; have GW693 := n2_; have GE693 := n3_; clear n0_ n1_ n2_ n3_; clear hb hbox hg; have hcz4_0 : w3.cell? ⟨gb693, 0, none⟩ = some (.int .i64 a0_0) := (blk_cell BK693.out 0).trans rfl; have hcz4_1 : w3.cell? ⟨gb693, 1, none⟩ = some (.int .i64 a0_1) := (blk_cell BK693.out 1).trans rfl; have hcz4_2 : w3.cell? ⟨gb693, 2, none⟩ = some (.int .i64 a0_2) := (blk_cell BK693.out 2).trans rfl; have hfz4_0 := blk_frozen BK693.out 0; have hfz4_1 := blk_frozen BK693.out 1; have hfz4_2 := blk_frozen BK693.out 2) | (go_at_call 141; (with_reducible refine (impl_halves.calls a0_0 t694 _ A2.out).mono ?_); rintro e w' ⟨rfl, ⟨nd, rfl⟩⟩; (try first | exact ⟨rfl, _, World.drewN_drewN _ _ _⟩ | exact ⟨rfl, _, Eq.trans (World.drewN_drewN _ _ _) (congrArg (World.drewN _) (Nat.add_assoc _ _ _))⟩))); try go_wp2_with (first | ((with_reducible refine gate_dst (N := 1) rfl ?_); refine box_event ?hg (N := 1) ?hd (cs := #[.int .i64 a0_0, .int .i64 a0_1, .int .i64 a0_2]) (t := 64) ?hr ?_; (case hd => rfl); (case hg => rfl); (case hr => first | (go_simp; done) | (go_simp; rfl)); intro gb693 hg w3 hbox hb; have n0_ := Aside0.mk (below_step (by repeat (first | (with_reducible first | exact HB.out | apply below_alloc | apply pw_below_drewN | apply below_drew1) | exact HB.out)) hb); have n1_ := Aside0.mk (hbox); have n2_ := Aside0.mk ((by rw [hg]; exact (below_size (by repeat (first | (with_reducible first | exact HB.out | apply below_alloc | apply pw_below_drewN | apply below_drew1) | exact HB.out))) : w.heap.size ≤ gb693)); have n3_ := Aside0.mk ((by rw [hg]; exact (below_size (by repeat (first | (with_reducible first | exact HB.out | apply below_alloc | apply pw_below_drewN | apply below_drew1) | exact HB.out))) : w.heap.size ≤ gb693)); clear HB; have HB := n0_; have BK693 := n1_; have GW693 := n2_; have GE693 := n3_; clear n0_ n1_ n2_ n3_; clear hb hbox hg; have hcz4_0 : w3.cell? ⟨gb693, 0, none⟩ = some (.int .i64 a0_0) := (blk_cell BK693.out 0).trans rfl; have hcz4_1 : w3.cell? ⟨gb693, 1, none⟩ = some (.int .i64 a0_1) := (blk_cell BK693.out 1).trans rfl; have hcz4_2 : w3.cell? ⟨gb693, 2, none⟩ = some (.int .i64 a0_2) := (blk_cell BK693.out 2).trans rfl; have hfz4_0 := blk_frozen BK693.out 0; have hfz4_1 := blk_frozen BK693.out 1; have hfz4_2 := blk_frozen BK693.out 2) | (go_at_call 141; (with_reducible refine (impl_halves.calls a0_0 t694 _ A2.out).mono ?_); rintro e w' ⟨rfl, ⟨nd, rfl⟩⟩; (try first | exact ⟨rfl, _, World.drewN_drewN _ _ _⟩ | exact ⟨rfl, _, Eq.trans (World.drewN_drewN _ _ _) (congrArg (World.drewN _) (Nat.add_assoc _ _ _))⟩))))
 go_ret
 exact ⟨by first | rfl | (simp [errW_none, errW_some] <;> rfl) | (simp [*, errW_none, errW_some] <;> rfl), by repeat (first | (with_reducible first | exact HB.out | apply below_alloc | apply pw_below_drewN | apply below_drew1 | refine below_set ?_ GE693.out) | exact HB.out)⟩
end Go.Proofs.Ytiophiipmgpaeaa.F

namespace Go.Proofs.Ytiophiipmgpaeaa.F
open Go.RowKit Go.Proofs.YtiophiipmgpaeaaW.PrintWords Go.Proofs.YtiophiipmgpaeaaW.PrintLast Go.Proofs.YtiophiipmgpaeaaW.PrintMore
attribute [local go_sem] max2_int min2_int max_two min_two max_three min_three max_four min_four
set_option linter.unusedVariables false
set_option linter.unusedSimpArgs false
def impl_IsNote.f (a0_0 : Int) (a0_1 : Int) (a0_2 : Int) : Option (Bool) := (impl_InRange.f a0_0 0 6).bind fun t696 => (if t696 = true then ((impl_InRange.f a0_1 (-2) 2).bind fun t697 => (if t697 = true then ((impl_InRange.f a0_2 0 8).bind fun t698 => (if t698 = true then ((impl_Note_pitch.f a0_0 a0_1 a0_2).bind fun t699 => ((impl_InRange.f t699 12 120).bind fun t700 => (some t700))) else (some false))) else (some false))) else (some false))
set_option maxHeartbeats 8000000 in
set_option maxRecDepth 100000 in
theorem impl_IsNote.calls (a0_0 : Int) (a0_1 : Int) (a0_2 : Int) (r : Bool) (w : World) (h : impl_IsNote.f a0_0 a0_1 a0_2 = some r) :
  Calls Try.prog 129 #[.agg #[.int .i64 a0_0, .int .i64 a0_1, .int .i64 a0_2]] w fun e w' => e = .returned (.bool r) ∧ Below w.heap.size w w' := by
 have hu64 := Try.underlying64
 have HB := Aside0.mk (Below.refl w.heap.size w)
 have H : ((impl_InRange.f a0_0 0 6).bind fun t696 => (if t696 = true then ((impl_InRange.f a0_1 (-2) 2).bind fun t697 => (if t697 = true then ((impl_InRange.f a0_2 0 8).bind fun t698 => (if t698 = true then ((impl_Note_pitch.f a0_0 a0_1 a0_2).bind fun t699 => ((impl_InRange.f t699 12 120).bind fun t700 => (some t700))) else (some false))) else (some false))) else (some false))) = some r := h
 clear h
 replace H := Option.bind_eq_some_iff.mp H
 obtain ⟨t696, A20, H⟩ := H
 try dsimp only at H
 have A2 := Aside0.mk A20
 clear A20
 by_cases c3 : t696 = true
 ·
  subst c3
  rw [if_pos rfl] at H
  replace H := Option.bind_eq_some_iff.mp H
  obtain ⟨t697, A40, H⟩ := H
  try dsimp only at H
  have A4 := Aside0.mk A40
  clear A40
  by_cases c5 : t697 = true
  ·
   subst c5
   rw [if_pos rfl] at H
   replace H := Option.bind_eq_some_iff.mp H
   obtain ⟨t698, A60, H⟩ := H
   try dsimp only at H
   have A6 := Aside0.mk A60
   clear A60
   by_cases c7 : t698 = true
   ·
    subst c7
    rw [if_pos rfl] at H
    replace H := Option.bind_eq_some_iff.mp H
    obtain ⟨t699, A80, H⟩ := H
    try dsimp only at H
    have A8 := Aside0.mk A80
    clear A80
    replace H := Option.bind_eq_some_iff.mp H
    obtain ⟨t700, A90, H⟩ := H
    try dsimp only at H
    have A9 := Aside0.mk A90
    clear A90
    obtain rfl := Option.some.inj H
    go_enter Try.func129, Try.ntmps129
    go_wp2_with (first | ((with_reducible refine gate_dst (N := 1) rfl ?_); refine box_event ?hg (N := 1) ?hd (cs := #[.int .i64 a0_0, .int .i64 a0_1, .int .i64 a0_2]) (t := 64) ?hr ?_; (case hd => rfl); (case hg => rfl); (case hr => first | (go_simp; done) | (go_simp; rfl)); intro gb695 hg w10 hbox hb; have n0_ := Aside0.mk (below_step (by repeat (first | (with_reducible first | exact HB.out | apply below_alloc | apply pw_below_drewN | apply below_drew1) | exact HB.out)) hb); have n1_ := Aside0.mk (hbox); have n2_ := Aside0.mk ((by rw [hg]; exact (below_size (by repeat (first | (with_reducible first | exact HB.out | apply below_alloc | apply pw_below_drewN | apply below_drew1) | exact HB.out))) : w.heap.size ≤ gb695)); have n3_ := Aside0.mk ((by rw [hg]; exact (below_size (by repeat (first | (with_reducible first | exact HB.out | apply below_alloc | apply pw_below_drewN | apply below_drew1) | exact HB.out))) : w.heap.size ≤ gb695)); clear HB; have HB := n0_; have BK695 := n1_; have GW695 := n2_; have GE695 := n3_; clear n0_ n1_ n2_ n3_; clear hb hbox hg; have hcz11_0 : w10.cell? ⟨gb695, 0, none⟩ = some (.int .i64 a0_0) := (blk_cell BK695.out 0).trans rfl; have hcz11_1 : w10.cell? ⟨gb695, 1, none⟩ = some (.int .i64 a0_1) := (blk_cell BK695.out 1).trans rfl; have hcz11_2 : w10.cell? ⟨gb695, 2, none⟩ = some (.int .i64 a0_2) := (blk_cell BK695.out 2).trans rfl; have hfz11_0 := blk_frozen BK695.out 0; have hfz11_1 := blk_frozen BK695.out 1; have hfz11_2 := blk_frozen BK695.out 2) | ((with_reducible refine gate_callee (f := 82) rfl ?_); refine goesL_ (some 5) rfl rfl Try.func82 (by kernel_rfl) rfl #[.int .i64 a0_0, .int .i64 0, .int .i64 6] rfl (by (try simp only [List.map_toArray, List.map_cons, List.map_nil]); first | done | rfl | (simp only [List.length_drop, List.length_take]; rfl)) ?_; (with_reducible refine (impl_InRange.calls a0_0 0 6 true _ A2.out).mono ?_); rintro e w' ⟨rfl, ⟨nd, rfl⟩⟩; refine ⟨_, rfl, ?_⟩) | (go_at_call 82; (with_reducible refine (impl_InRange.calls a0_1 (-2) 2 true _ A4.out).mono ?_); rintro e w' ⟨rfl, ⟨nd, rfl⟩⟩) | (go_at_call 82; (with_reducible refine (impl_InRange.calls a0_2 0 8 true _ A6.out).mono ?_); rintro e w' ⟨rfl, ⟨nd, rfl⟩⟩) | (go_at_call 105; (with_reducible refine (impl_Note_pitch.calls a0_0 a0_1 a0_2 t699 _ A8.out).mono ?_); rintro e w12 ⟨rfl, hb⟩; have n0_ := Aside0.mk (blk_below (g := gb695) (o := .cells #[.int .i64 a0_0, .int .i64 a0_1, .int .i64 a0_2] 64 (0, 0)) (by (with_reducible repeat (first | refine blk_drewN ?_ _ | refine blk_drew ?_ | refine blk_alloc ?_ _)); exact BK695.out) hb); have n1_ := Aside0.mk (below_step (by repeat (first | (with_reducible first | exact HB.out | apply below_alloc | apply pw_below_drewN | apply below_drew1 | refine below_set ?_ GE695.out) | exact HB.out)) hb); clear BK695; clear HB; have BK695 := n0_; have HB := n1_; clear n0_ n1_; (try clear hb); (try clear hb2); (try clear hk); (try clear hi)) | (go_at_call 82; (with_reducible refine (impl_InRange.calls t699 12 120 t700 _ A9.out).mono ?_); rintro e w' ⟨rfl, ⟨nd, rfl⟩⟩))
    go_ret
    exact ⟨by first | rfl | (simp [errW_none, errW_some] <;> rfl) | (simp [*, errW_none, errW_some] <;> rfl), by repeat (first | (with_reducible first | exact HB.out | apply below_alloc | apply pw_below_drewN | apply below_drew1 | refine below_set ?_ GE695.out) | exact HB.out)⟩
   ·
    replace c7 := Bool.eq_false_iff.mpr c7
    subst c7
    rw [if_neg (show ¬ (false = true) by decide)] at H
    obtain rfl := Option.some.inj H
    go_enter Try.func129, Try.ntmps129
    go_wp2_with (first | ((with_reducible refine gate_dst (N := 1) rfl ?_); refine box_event ?hg (N := 1) ?hd (cs := #[.int .i64 a0_0, .int .i64 a0_1, .int .i64 a0_2]) (t := 64) ?hr ?_; (case hd => rfl); (case hg => rfl); (case hr => first | (go_simp; done) | (go_simp; rfl)); intro gb695 hg w13 hbox hb; have n0_ := Aside0.mk (below_step (by repeat (first | (with_reducible first | exact HB.out | apply below_alloc | apply pw_below_drewN | apply below_drew1) | exact HB.out)) hb); have n1_ := Aside0.mk (hbox); have n2_ := Aside0.mk ((by rw [hg]; exact (below_size (by repeat (first | (with_reducible first | exact HB.out | apply below_alloc | apply pw_below_drewN | apply below_drew1) | exact HB.out))) : w.heap.size ≤ gb695)); have n3_ := Aside0.mk ((by rw [hg]; exact (below_size (by repeat (first | (with_reducible first | exact HB.out | apply below_alloc | apply pw_below_drewN | apply below_drew1) | exact HB.out))) : w.heap.size ≤ gb695)); clear HB; have HB := n0_; have BK695 := n1_; have GW695 := n2_; have GE695 := n3_; clear n0_ n1_ n2_ n3_; clear hb hbox hg; have hcz14_0 : w13.cell? ⟨gb695, 0, none⟩ = some (.int .i64 a0_0) := (blk_cell BK695.out 0).trans rfl; have hcz14_1 : w13.cell? ⟨gb695, 1, none⟩ = some (.int .i64 a0_1) := (blk_cell BK695.out 1).trans rfl; have hcz14_2 : w13.cell? ⟨gb695, 2, none⟩ = some (.int .i64 a0_2) := (blk_cell BK695.out 2).trans rfl; have hfz14_0 := blk_frozen BK695.out 0; have hfz14_1 := blk_frozen BK695.out 1; have hfz14_2 := blk_frozen BK695.out 2) | ((with_reducible refine gate_callee (f := 82) rfl ?_); refine goesL_ (some 5) rfl rfl Try.func82 (by kernel_rfl) rfl #[.int .i64 a0_0, .int .i64 0, .int .i64 6] rfl (by (try simp only [List.map_toArray, List.map_cons, List.map_nil]); first | done | rfl | (simp only [List.length_drop, List.length_take]; rfl)) ?_; (with_reducible refine (impl_InRange.calls a0_0 0 6 true _ A2.out).mono ?_); rintro e w' ⟨rfl, ⟨nd, rfl⟩⟩; refine ⟨_, rfl, ?_⟩) | (go_at_call 82; (with_reducible refine (impl_InRange.calls a0_1 (-2) 2 true _ A4.out).mono ?_); rintro e w' ⟨rfl, ⟨nd, rfl⟩⟩) | (go_at_call 82; (with_reducible refine (impl_InRange.calls a0_2 0 8 false _ A6.out).mono ?_); rintro e w' ⟨rfl, ⟨nd, rfl⟩⟩))
    go_ret
    exact ⟨by first | rfl | (simp [errW_none, errW_some] <;> rfl) | (simp [*, errW_none, errW_some] <;> rfl), by repeat (first | (with_reducible first | exact HB.out | apply below_alloc | apply pw_below_drewN | apply below_drew1 | refine below_set ?_ GE695.out) | exact HB.out)⟩
  ·
   replace c5 := Bool.eq_false_iff.mpr c5
   subst c5
   rw [if_neg (show ¬ (false = true) by decide)] at H
   obtain rfl := Option.some.inj H
   go_enter Try.func129, Try.ntmps129
   go_wp2_with (first | ((with_reducible refine gate_dst (N := 1) rfl ?_); refine box_event ?hg (N := 1) ?hd (cs := #[.int .i64 a0_0, .int .i64 a0_1, .int .i64 a0_2]) (t := 64) ?hr ?_; (case hd => rfl); (case hg => rfl); (case hr => first | (go_simp; done) | (go_simp; rfl)); intro gb695 hg w15 hbox hb; have n0_ := Aside0.mk (below_step (by repeat (first | (with_reducible first | exact HB.out | apply below_alloc | apply pw_below_drewN | apply below_drew1) | exact HB.out)) hb); have n1_ := Aside0.mk (hbox); have n2_ := Aside0.mk ((by rw [hg]; exact (below_size (by repeat (first | (with_reducible first | exact HB.out | apply below_alloc | apply pw_below_drewN | apply below_drew1) | exact HB.out))) : w.heap.size ≤ gb695)); have n3_ := Aside0.mk ((by rw [hg]; exact (below_size (by repeat (first | (with_reducible first | exact HB.out | apply below_alloc | apply pw_below_drewN | apply below_drew1) | exact HB.out))) : w.heap.size ≤ gb695)); clear HB; have HB := n0_; have BK695 := n1_; have GW695 := n2_; have GE695 := n3_; clear n0_ n1_ n2_ n3_; clear hb hbox hg; have hcz16_0 : w15.cell? ⟨gb695, 0, none⟩ = some (.int .i64 a0_0) := (blk_cell BK695.out 0).trans rfl; have hcz16_1 : w15.cell? ⟨gb695, 1, none⟩ = some (.int .i64 a0_1) := (blk_cell BK695.out 1).trans rfl; have hcz16_2 : w15.cell? ⟨gb695, 2, none⟩ = some (.int .i64 a0_2) := (blk_cell BK695.out 2).trans rfl; have hfz16_0 := blk_frozen BK695.out 0; have hfz16_1 := blk_frozen BK695.out 1; have hfz16_2 := blk_frozen BK695.out 2) | ((with_reducible refine gate_callee (f := 82) rfl ?_); refine goesL_ (some 5) rfl rfl Try.func82 (by kernel_rfl) rfl #[.int .i64 a0_0, .int .i64 0, .int .i64 6] rfl (by (try simp only [List.map_toArray, List.map_cons, List.map_nil]); first | done | rfl | (simp only [List.length_drop, List.length_take]; rfl)) ?_; (with_reducible refine (impl_InRange.calls a0_0 0 6 true _ A2.out).mono ?_); rintro e w' ⟨rfl, ⟨nd, rfl⟩⟩; refine ⟨_, rfl, ?_⟩) | (go_at_call 82; (with_reducible refine (impl_InRange.calls a0_1 (-2) 2 false _ A4.out).mono ?_); rintro e w' ⟨rfl, ⟨nd, rfl⟩⟩))
   go_ret
   exact ⟨by first | rfl | (simp [errW_none, errW_some] <;> rfl) | (simp [*, errW_none, errW_some] <;> rfl), by repeat (first | (with_reducible first | exact HB.out | apply below_alloc | apply pw_below_drewN | apply below_drew1 | refine below_set ?_ GE695.out) | exact HB.out)⟩
 ·
  replace c3 := Bool.eq_false_iff.mpr c3
  subst c3
  rw [if_neg (show ¬ (false = true) by decide)] at H
  obtain rfl := Option.some.inj H
  go_enter Try.func129, Try.ntmps129
  go_wp2_with (first | ((with_reducible refine gate_dst (N := 1) rfl ?_); refine box_event ?hg (N := 1) ?hd (cs := #[.int .i64 a0_0, .int .i64 a0_1, .int .i64 a0_2]) (t := 64) ?hr ?_; (case hd => rfl); (case hg => rfl); (case hr => first | (go_simp; done) | (go_simp; rfl)); intro gb695 hg w17 hbox hb; have n0_ := Aside0.mk (below_step (by repeat (first | (with_reducible first | exact HB.out | apply below_alloc | apply pw_below_drewN | apply below_drew1) | exact HB.out)) hb); have n1_ := Aside0.mk (hbox); have n2_ := Aside0.mk ((by rw [hg]; exact (below_size (by repeat (first | (with_reducible first | exact HB.out | apply below_alloc | apply pw_below_drewN | apply below_drew1) | exact HB.out))) : w.heap.size ≤ gb695)); have n3_ := Aside0.mk ((by rw [hg]; exact (below_size (by repeat (first | (with_reducible first | exact HB.out | apply below_alloc | apply pw_below_drewN | apply below_drew1) | exact HB.out))) : w.heap.size ≤ gb695)); clear HB; have HB := n0_; have BK695 := n1_; have GW695 := n2_; have GE695 := n3_; clear n0_ n1_ n2_ n3_; clear hb hbox hg; have hcz18_0 : w17.cell? ⟨gb695, 0, none⟩ = some (.int .i64 a0_0) := (blk_cell BK695.out 0).trans rfl; have hcz18_1 : w17.cell? ⟨gb695, 1, none⟩ = some (.int .i64 a0_1) := (blk_cell BK695.out 1).trans rfl; have hcz18_2 : w17.cell? ⟨gb695, 2, none⟩ = some (.int .i64 a0_2) := (blk_cell BK695.out 2).trans rfl; have hfz18_0 := blk_frozen BK695.out 0; have hfz18_1 := blk_frozen BK695.out 1; have hfz18_2 := blk_frozen BK695.out 2) | ((with_reducible refine gate_callee (f := 82) rfl ?_); refine goesL_ (some 5) rfl rfl Try.func82 (by kernel_rfl) rfl #[.int .i64 a0_0, .int .i64 0, .int .i64 6] rfl (by (try simp only [List.map_toArray, List.map_cons, List.map_nil]); first | done | rfl | (simp only [List.length_drop, List.length_take]; rfl)) ?_; (with_reducible refine (impl_InRange.calls a0_0 0 6 false _ A2.out).mono ?_); rintro e w' ⟨rfl, ⟨nd, rfl⟩⟩; refine ⟨_, rfl, ?_⟩))
  go_ret
  exact ⟨by first | rfl | (simp [errW_none, errW_some] <;> rfl) | (simp [*, errW_none, errW_some] <;> rfl), by repeat (first | (with_reducible first | exact HB.out | apply below_alloc | apply pw_below_drewN | apply below_drew1 | refine below_set ?_ GE695.out) | exact HB.out)⟩
end Go.Proofs.Ytiophiipmgpaeaa.F

namespace Go.Proofs.Ytiophiipmgpaeaa.F
open Go.RowKit Go.Proofs.YtiophiipmgpaeaaW.PrintWords Go.Proofs.YtiophiipmgpaeaaW.PrintLast Go.Proofs.YtiophiipmgpaeaaW.PrintMore
attribute [local go_sem] max2_int min2_int max_two min_two max_three min_three max_four min_four
set_option linter.unusedVariables false
set_option linter.unusedSimpArgs false
def pitI (s a o : Int) : Int := 12 * (o + 1) + a + halvI s
theorem halvI_b (s : Int) : 0 ≤ halvI s ∧ halvI s ≤ 11 := by
 unfold halvI
 repeat' split
 all_goals omega
theorem wq {x : Int} (h : -9223372036854775808 ≤ x) (h2 : x ≤ 9223372036854775807) : wrap64 x = x := by unfold wrap64; omega
theorem pitch_ok {s a o : Int} (hs : 0 ≤ s ∧ s ≤ 6) (ha : -100 ≤ a ∧ a ≤ 100) (ho : -1000 ≤ o ∧ o ≤ 1000) : impl_Note_pitch.f s a o = some (pitI s a o) := by
 have hb := halvI_b s
 unfold impl_Note_pitch.f impl_halves.f pitI
 rw [if_pos hs, Option.bind_some, wq (x := o + 1) (by omega) (by omega), wq (x := 12 * (o + 1)) (by omega) (by omega), wq (x := 12 * (o + 1) + a) (by omega) (by omega), wq (by omega) (by omega)]
set_option maxHeartbeats 8000000 in
set_option maxRecDepth 100000 in
theorem ss_pred (p al : Int) (gp ga : Nat) (s a o : Int) (w : World) (hs : 0 ≤ s ∧ s ≤ 6) (ha : -100 ≤ a ∧ a ≤ 100) (ho : -1000 ≤ o ∧ o ≤ 1000) (hp : w.cell? ⟨gp, 0, none⟩ = some (.int .i64 p)) (hl : w.cell? ⟨ga, 0, none⟩ = some (.int .i64 al)) :
  Calls Try.prog 142 #[.agg #[.int .i64 s, .int .i64 a, .int .i64 o], .pointer (some ⟨gp, 0, none⟩), .pointer (some ⟨ga, 0, none⟩)] w fun e w' => e = .returned (.bool (pitI s a o == p && a == al)) ∧ Below w.heap.size w w' := by
 have hu64 := Try.underlying64
 have HP := Aside0.mk (pitch_ok hs ha ho)
 have HB := Aside0.mk (Below.refl w.heap.size w)
 have HC := Aside0.mk hp
 have HL := Aside0.mk hl
 clear hs ha ho hp hl
 generalize pitI s a o = y at HP ⊢
 obtain ⟨c1, hc1⟩ : ∃ c1, c1 = (y == p) := ⟨_, rfl⟩
 obtain ⟨c2, hc2⟩ : ∃ c2, c2 = (a == al) := ⟨_, rfl⟩
 have C1 := Aside0.mk hc1
 have C2 := Aside0.mk hc2
 cases c1 <;> cases c2
 all_goals
  replace hc1 := hc1.symm
  replace hc2 := hc2.symm
  go_enter Try.func142, Try.ntmps142
  go_upto_region 1 with (first | ((with_reducible refine gate_dst (N := 3) rfl ?_); refine box_event ?hg (N := 3) ?hd (cs := #[.int .i64 s, .int .i64 a, .int .i64 o]) (t := 64) ?hr ?_; (case hd => rfl); (case hg => rfl); (case hr => first | (go_simp; done) | (go_simp; rfl)); intro gb hg w3 hbox hb; have n0_ := Aside0.mk (below_step HB.out hb); have BK := Aside0.mk hbox; clear HB; have HB := n0_; clear n0_ hb hbox hg))
  refine BelowW.region (by kernel_rfl) (by kernel_rfl) ?_
  have hq0_ : w3.drew.cell? ⟨gb, 0, none⟩ = some (.int .i64 s) := (blk_cell BK.out 0).trans rfl
  have hq1_ : w3.drew.cell? ⟨gb, 1, none⟩ = some (.int .i64 a) := (blk_cell BK.out 1).trans rfl
  have hq2_ : w3.drew.cell? ⟨gb, 2, none⟩ = some (.int .i64 o) := (blk_cell BK.out 2).trans rfl
  have hq3_ : w3.drew.cell? ⟨gp, 0, none⟩ = some (.int .i64 p) := (HB.out.cell (World.block_lt_of_cell? w _ HC.out)).trans HC.out
  have hq4_ : w3.drew.cell? ⟨ga, 0, none⟩ = some (.int .i64 al) := (HB.out.cell (World.block_lt_of_cell? w _ HL.out)).trans HL.out
  have n0_ := Aside0.mk (below_drew1 HB.out)
  clear HB BK
  generalize w3.drew = w4 at hq0_ hq1_ hq2_ hq3_ hq4_ n0_ ⊢
  replace hq0_ := BelowW.at hq0_
  replace hq1_ := BelowW.at hq1_
  replace hq2_ := BelowW.at hq2_
  replace hq3_ := BelowW.at hq3_
  replace hq4_ := BelowW.at hq4_
  change wpQuiet _ _ _ _ (List.cons _ _) _
  repeat (go_big_quiet_step (first | (go_at_call 105; (with_reducible refine (impl_Note_pitch.calls s a o y _ HP.out).mono ?_); exact fun _ _ h_ => ⟨h_.1, BelowW.step _ h_.2⟩)))
  refine wpQuiet_nil ?_
  intro w5 hb
  have HB := Aside0.mk (below_step n0_.out hb)
  clear n0_ hb hq0_ hq1_ hq2_ hq3_ hq4_
  go_wp2
  go_ret
  exact ⟨by rw [hc1]; try rw [hc2] <;> rfl, HB.out⟩
def isNoteI (s a o : Int) : Bool := decide (0 ≤ s ∧ s ≤ 6) && (decide (-2 ≤ a ∧ a ≤ 2) && (decide (0 ≤ o ∧ o ≤ 8) && decide (12 ≤ pitI s a o ∧ pitI s a o ≤ 120)))
theorem InR_ok (a b c : Int) : impl_InRange.f a b c = some (decide (b ≤ a ∧ a ≤ c)) := by
 unfold impl_InRange.f
 by_cases h1 : b ≤ a <;> by_cases h2 : a ≤ c <;> simp [h1, h2]
theorem isNote_ok (s a o : Int) : impl_IsNote.f s a o = some (isNoteI s a o) := by
 unfold impl_IsNote.f isNoteI
 rw [InR_ok, InR_ok, InR_ok]
 simp only [Option.bind_some]
 by_cases h1 : 0 ≤ s ∧ s ≤ 6
 ·
  by_cases h2 : -2 ≤ a ∧ a ≤ 2
  ·
   by_cases h3 : 0 ≤ o ∧ o ≤ 8
   ·
    rw [if_pos (decide_eq_true h1), if_pos (decide_eq_true h2), if_pos (decide_eq_true h3), pitch_ok h1 (by omega) (by omega), Option.bind_some, InR_ok, Option.bind_some, decide_eq_true h1, decide_eq_true h2, decide_eq_true h3]
    rfl
   ·
    rw [if_pos (decide_eq_true h1), if_pos (decide_eq_true h2), if_neg (by rw [decide_eq_false h3]; simp), decide_eq_false h3, decide_eq_true h1, decide_eq_true h2]
    rfl
  ·
   rw [if_pos (decide_eq_true h1), if_neg (by rw [decide_eq_false h2]; simp), decide_eq_false h2, decide_eq_true h1]
   rfl
 ·
  rw [if_neg (by rw [decide_eq_false h1]; simp), decide_eq_false h1]
  rfl
theorem isNoteI_b {s a o : Int} (h : isNoteI s a o = true) : (0 ≤ s ∧ s ≤ 6) ∧ (-100 ≤ a ∧ a ≤ 100) ∧ (-1000 ≤ o ∧ o ≤ 1000) := by
 unfold isNoteI at h
 simp only [Bool.and_eq_true, decide_eq_true_eq] at h
 omega
abbrev NoteR := Int × Int × Int × Bool
def altI (q : Int → Int → Int → Bool) (o s : Int) : Nat → Int → NoteR → NoteR
 | 0, _, d => d
 | n + 1, a, d => if (isNoteI s a o && q s a o) = true then (s, a, o, true) else altI q o s n (a + 1) d
def stepI (q : Int → Int → Int → Bool) (o : Int) : Nat → Int → NoteR → NoteR
 | 0, _, d => d
 | n + 1, s, d => altI q o s 5 (-2) (stepI q o n (s + 1) d)
def octI (q : Int → Int → Int → Bool) : Nat → Int → NoteR
 | 0, _ => (0, 0, 0, false)
 | n + 1, o => stepI q o 7 0 (octI q n (o + 1))
def set3 (W : World) (g : Nat) (x y z : Value) : World := ((W.setCell ⟨g, 0, none⟩ x).setCell ⟨g, 1, none⟩ y).setCell ⟨g, 2, none⟩ z
theorem set3_blk {W : World} {g t : Nat} {a b c x y z : Value} (h : W.heap[g]? = some (.cells #[a, b, c] t (0, 0))) : (set3 W g x y z).heap[g]? = some (.cells #[x, y, z] t (0, 0)) :=
 blk_put (cs := #[x, y, c]) (blk_put (cs := #[x, b, c]) (blk_put (cs := #[a, b, c]) h 0 _ rfl) 1 _ rfl) 2 _ rfl
theorem set3_far {W : World} {g f t : Nat} {cs : Array Value} {x y z : Value} (h : W.heap[f]? = some (.cells cs t (0, 0))) (hn : f ≠ g) : (set3 W g x y z).heap[f]? = some (.cells cs t (0, 0)) := by
 unfold set3
 exact blk_far (blk_far (blk_far h (p := ⟨g, 0, none⟩) hn _) (p := ⟨g, 1, none⟩) hn _) (p := ⟨g, 2, none⟩) hn _
theorem set3_below {w W : World} {g : Nat} {x y z : Value} (h : Below w.heap.size w W) (hg : w.heap.size ≤ g) : Below w.heap.size w (set3 W g x y z) := below_set (below_set (below_set h hg) hg) hg
set_option maxHeartbeats 8000000 in
set_option maxRecDepth 100000 in
theorem notes_calls (F : Nat) (p1 p2 : Value) (q : Int → Int → Int → Bool) (r1 r2 r3 : Int) (r4 : Bool) (w : World) (eg : ∀ args W, (callFunc F args).run Try.prog W = .ok (.enter F args) W)
  (hq : Aside0 (∀ s a o W, isNoteI s a o = true → Below w.heap.size w W → Calls Try.prog F #[.agg #[.int .i64 s, .int .i64 a, .int .i64 o], p1, p2] W fun e w' => e = .returned (.bool (q s a o)) ∧ Below W.heap.size W w')) (hr : octI q 9 0 = (r1, r2, r3, r4)) :
  Calls Try.prog 103 #[.func (.func F) #[] #[p1, p2]] w fun e w' => e = .returned (.tuple #[.agg #[.int .i64 r1, .int .i64 r2, .int .i64 r3], .bool r4]) ∧ Below w.heap.size w w' := by
 have hu64 := Try.underlying64
 have HB := Aside0.mk (Below.refl w.heap.size w)
 have HR := Aside0.mk hr
 clear hr
 go_enter Try.func103, Try.ntmps103
 go_wp2_with (first | ((with_reducible refine gate_dst (N := 2) rfl ?_); refine box_event ?hg (N := 2) ?hd (cs := #[.int .i64 0, .int .i64 0, .int .i64 0]) (t := 64) ?hr ?_; (case hd => rfl); (case hg => rfl); (case hr => first | (go_simp; done) | (go_simp; rfl)); intro gb hg w3 hbox hb;  have n0_ := Aside0.mk (below_step HB.out hb); have BK := Aside0.mk hbox; have GE := Aside0.mk (by rw [hg]; exact Nat.le_refl _ : w.heap.size ≤ gb); clear HB; have HB := n0_; clear n0_ hb hbox hg))
 go_loopg [4] 9 (fun gg v4 w' => ∃ (o : Int), v4 = .int .i64 o ∧ Aside0 (octI q gg o = (r1, r2, r3, r4) ∧ o + gg = 9 ∧ 0 ≤ o) ∧ Aside0 (w'.heap[gb]? = some (.cells #[.int .i64 0, .int .i64 0, .int .i64 0] 64 (0, 0))) ∧ Aside0 (Below w.heap.size w w'))
 case atStart => exact ⟨0, by first | rfl | simp, ⟨HR.out, by omega, by omega⟩, BK, HB⟩
 case round =>
  clear HR BK HB
  obtain ⟨o, rfl, HO, BK, HB⟩ := hrel
  cases gk with
  | zero =>
   have hO := HO.out
   have hb0 : decide (o ≤ 8) = false := decide_eq_false (by omega)
   have hR := hO.1
   simp only [octI, Prod.mk.injEq] at hR
   obtain ⟨rfl, rfl, rfl, rfl⟩ := hR
   clear hO
   have hcz0 : wr.cell? ⟨gb, 0, none⟩ = some (.int .i64 0) := (blk_cell BK.out 0).trans rfl
   have hcz1 : wr.cell? ⟨gb, 1, none⟩ = some (.int .i64 0) := (blk_cell BK.out 1).trans rfl
   have hcz2 : wr.cell? ⟨gb, 2, none⟩ = some (.int .i64 0) := (blk_cell BK.out 2).trans rfl
   have hfz0 := blk_frozen BK.out 0
   have hfz1 := blk_frozen BK.out 1
   have hfz2 := blk_frozen BK.out 2
   go_wp2
   refine bodyPost_ret (results_ct rfl _ _ gb 64 #[.int .i64 0, .int .i64 0, .int .i64 0] (0, 0) _ rfl (set3_blk BK.out) hu64 rfl (by kernel_rfl)) rfl ?_
   exact ⟨rfl, set3_below HB.out GE.out⟩
  | succ k2 =>
   have hO := HO.out
   have hb0 : decide (o ≤ 8) = true := decide_eq_true (by omega)
   clear hO
   go_wp2
   go_loopg [5] 7 (fun gg v5 w' => ∃ (s : Int), v5 = .int .i64 s ∧ Aside0 (stepI q o gg s (octI q k2 (o + 1)) = (r1, r2, r3, r4) ∧ s + gg = 7 ∧ 0 ≤ s) ∧ Aside0 (w'.heap[gb]? = some (.cells #[.int .i64 0, .int .i64 0, .int .i64 0] 64 (0, 0))) ∧ Aside0 (Below w.heap.size w w'))
   case atStart => exact ⟨0, by first | rfl | simp, ⟨HO.out.1, by omega, by omega⟩, BK, HB⟩
   case round =>
    clear BK HB
    obtain ⟨s, rfl, HS, BK, HB⟩ := hrel
    cases gk with
    | zero =>
     have hS := HS.out
     have hb1 : decide (s ≤ 6) = false := decide_eq_false (by omega)
     clear hS
     go_wp2
     go_roundg k2
     case measure => omega
     case rel =>
      have hO := HO.out
      have hS := HS.out
      refine ⟨wrap64 (o + 1), (by first | rfl | (simp; done) | (simp [*]; done)), ⟨?_, ?_, ?_⟩, BK, HB⟩
      all_goals (rw [wq (x := o + 1) (by omega) (by omega)]; first | exact hS.1 | omega)
    | succ k3 =>
     have hS := HS.out
     have hb1 : decide (s ≤ 6) = true := decide_eq_true (by omega)
     clear hS
     go_wp2
     go_loopg [6] 5 (fun gg v6 w' => ∃ (a : Int), v6 = .int .i64 a ∧ Aside0 (altI q o s gg a (stepI q o k3 (s + 1) (octI q k2 (o + 1))) = (r1, r2, r3, r4) ∧ a + gg = 3 ∧ -2 ≤ a) ∧ Aside0 (w'.heap[gb]? = some (.cells #[.int .i64 0, .int .i64 0, .int .i64 0] 64 (0, 0))) ∧ Aside0 (Below w.heap.size w w'))
     case atStart => exact ⟨-2, by first | rfl | simp, ⟨HS.out.1, by omega, by omega⟩, BK, HB⟩
     case round =>
      clear BK HB
      obtain ⟨a, rfl, HA, BK, HB⟩ := hrel
      cases gk with
      | zero =>
       have hA := HA.out
       have hb2 : decide (a ≤ 2) = false := decide_eq_false (by omega)
       clear hA
       go_wp2
       go_roundg k3
       case measure => omega
       case rel =>
        have hA := HA.out
        have hS := HS.out
        refine ⟨wrap64 (s + 1), (by first | rfl | (simp; done) | (simp [*]; done)), ⟨?_, ?_, ?_⟩, BK, HB⟩
        all_goals (rw [wq (x := s + 1) (by omega) (by omega)]; first | exact hA.1 | omega)
      | succ k4 =>
       have hA := HA.out
       have hb2 : decide (a ≤ 2) = true := decide_eq_true (by omega)
       clear hA
       have IN := Aside0.mk (isNote_ok s a o)
       cases hi : isNoteI s a o with
       | false =>
        rw [hi] at IN
        have HI := Aside0.mk hi
        clear hi
        go_wp2_with (first | ((with_reducible refine gate_dst (N := 7) rfl ?_); refine box_event ?hg (N := 7) ?hd (cs := #[.int .i64 0, .int .i64 0, .int .i64 0]) (t := 64) ?hr ?_; (case hd => rfl); (case hg => rfl); (case hr => first | (go_simp; done) | (go_simp; rfl)); intro gx hg w5 hbox hb; have n0_ := Aside0.mk (below_step HB.out hb); have n1_ := Aside0.mk (blk_below BK.out hb); have BX := Aside0.mk hbox; have GX := Aside0.mk (by rw [hg]; exact below_size HB.out : w.heap.size ≤ gx); have NX := Aside0.mk (by rw [hg]; exact Nat.ne_of_lt (blk_lt BK.out) : gb ≠ gx); have hcz0 : w5.cell? ⟨gx, 0, none⟩ = some (.int .i64 0) := (blk_cell hbox 0).trans rfl; have hcz1 : w5.cell? ⟨gx, 1, none⟩ = some (.int .i64 0) := (blk_cell hbox 1).trans rfl; have hcz2 : w5.cell? ⟨gx, 2, none⟩ = some (.int .i64 0) := (blk_cell hbox 2).trans rfl; have hfz0 := blk_frozen hbox 0; have hfz1 := blk_frozen hbox 1; have hfz2 := blk_frozen hbox 2; clear HB BK; have HB := n0_; have BK := n1_; clear n0_ n1_ hb hbox hg) | ((with_reducible refine gate_store (t := 64) (p := 7) rfl ?_); refine store_event (t := 64) (p := 7) (v := ?vo) (w1 := set3 w5 gx (.int .i64 s) (.int .i64 a) (.int .i64 o)) ?hg ?ho ?hn ?hr ?_; (case ho => rfl); (case hg => rfl); (case hn => rfl); (case hr => unfold set3; first | (go_simp; done) | (go_simp; rfl)); intro w6 hw; have n0_ : Aside0 (Below w.heap.size w w6) := ⟨by rw [hw]; exact set3_below HB.out GX.out⟩; have n1_ : Aside0 (w6.heap[gb]? = some (.cells #[.int .i64 0, .int .i64 0, .int .i64 0] 64 (0, 0))) := ⟨by rw [hw]; exact set3_far BK.out NX.out⟩; have n2_ : Aside0 (w6.heap[gx]? = some (.cells #[.int .i64 s, .int .i64 a, .int .i64 o] 64 (0, 0))) := ⟨by rw [hw]; exact set3_blk BX.out⟩; clear hcz0 hcz1 hcz2 hfz0 hfz1 hfz2 hw HB BK BX; have HB := n0_; have BK := n1_; have BX := n2_; clear n0_ n1_ n2_; have hcx0 : w6.cell? ⟨gx, 0, none⟩ = some (.int .i64 s) := (blk_cell BX.out 0).trans rfl; have hcx1 : w6.cell? ⟨gx, 1, none⟩ = some (.int .i64 a) := (blk_cell BX.out 1).trans rfl; have hcx2 : w6.cell? ⟨gx, 2, none⟩ = some (.int .i64 o) := (blk_cell BX.out 2).trans rfl) | (go_at_call 129; (with_reducible refine (impl_IsNote.calls s a o _ _ IN.out).mono ?_); rintro e w7 ⟨rfl, hb⟩; have n0_ := Aside0.mk (below_step HB.out hb); have n1_ := Aside0.mk (blk_below BK.out hb); have n2_ := Aside0.mk (blk_below BX.out hb); clear HB BK BX hcx0 hcx1 hcx2 hb; have HB := n0_; have BK := n1_; have BX := n2_; clear n0_ n1_ n2_; have hcx0 : w7.cell? ⟨gx, 0, none⟩ = some (.int .i64 s) := (blk_cell BX.out 0).trans rfl; have hcx1 : w7.cell? ⟨gx, 1, none⟩ = some (.int .i64 a) := (blk_cell BX.out 1).trans rfl; have hcx2 : w7.cell? ⟨gx, 2, none⟩ = some (.int .i64 o) := (blk_cell BX.out 2).trans rfl))
        go_roundg k4
        case measure => omega
        case rel =>
         have hA := HA.out
         have hR := hA.1
         simp only [altI, HI.out, Bool.false_and, Bool.false_eq_true, if_false] at hR
         refine ⟨wrap64 (a + 1), (by first | rfl | (simp; done) | (simp [*]; done)), ⟨?_, ?_, ?_⟩, BK, HB⟩
         all_goals (rw [wq (x := a + 1) (by omega) (by omega)]; first | exact hR | omega)
       | true =>
        rw [hi] at IN
        have HI := Aside0.mk hi
        clear hi
        obtain ⟨c, hc⟩ : ∃ c, c = q s a o := ⟨_, rfl⟩
        have HC := Aside0.mk hc
        have HQ := hq.out s a o
        rw [← hc] at HQ
        clear hc
        cases c with
        | false =>
         have HQ2 := Aside0.mk HQ
         clear HQ
         go_wp2_with (first | ((with_reducible refine gate_dst (N := 7) rfl ?_); refine box_event ?hg (N := 7) ?hd (cs := #[.int .i64 0, .int .i64 0, .int .i64 0]) (t := 64) ?hr ?_; (case hd => rfl); (case hg => rfl); (case hr => first | (go_simp; done) | (go_simp; rfl)); intro gx hg w5 hbox hb; have n0_ := Aside0.mk (below_step HB.out hb); have n1_ := Aside0.mk (blk_below BK.out hb); have BX := Aside0.mk hbox; have GX := Aside0.mk (by rw [hg]; exact below_size HB.out : w.heap.size ≤ gx); have NX := Aside0.mk (by rw [hg]; exact Nat.ne_of_lt (blk_lt BK.out) : gb ≠ gx); have hcz0 : w5.cell? ⟨gx, 0, none⟩ = some (.int .i64 0) := (blk_cell hbox 0).trans rfl; have hcz1 : w5.cell? ⟨gx, 1, none⟩ = some (.int .i64 0) := (blk_cell hbox 1).trans rfl; have hcz2 : w5.cell? ⟨gx, 2, none⟩ = some (.int .i64 0) := (blk_cell hbox 2).trans rfl; have hfz0 := blk_frozen hbox 0; have hfz1 := blk_frozen hbox 1; have hfz2 := blk_frozen hbox 2; clear HB BK; have HB := n0_; have BK := n1_; clear n0_ n1_ hb hbox hg) | ((with_reducible refine gate_store (t := 64) (p := 7) rfl ?_); refine store_event (t := 64) (p := 7) (v := ?vo) (w1 := set3 w5 gx (.int .i64 s) (.int .i64 a) (.int .i64 o)) ?hg ?ho ?hn ?hr ?_; (case ho => rfl); (case hg => rfl); (case hn => rfl); (case hr => unfold set3; first | (go_simp; done) | (go_simp; rfl)); intro w6 hw; have n0_ : Aside0 (Below w.heap.size w w6) := ⟨by rw [hw]; exact set3_below HB.out GX.out⟩; have n1_ : Aside0 (w6.heap[gb]? = some (.cells #[.int .i64 0, .int .i64 0, .int .i64 0] 64 (0, 0))) := ⟨by rw [hw]; exact set3_far BK.out NX.out⟩; have n2_ : Aside0 (w6.heap[gx]? = some (.cells #[.int .i64 s, .int .i64 a, .int .i64 o] 64 (0, 0))) := ⟨by rw [hw]; exact set3_blk BX.out⟩; clear hcz0 hcz1 hcz2 hfz0 hfz1 hfz2 hw HB BK BX; have HB := n0_; have BK := n1_; have BX := n2_; clear n0_ n1_ n2_; have hcx0 : w6.cell? ⟨gx, 0, none⟩ = some (.int .i64 s) := (blk_cell BX.out 0).trans rfl; have hcx1 : w6.cell? ⟨gx, 1, none⟩ = some (.int .i64 a) := (blk_cell BX.out 1).trans rfl; have hcx2 : w6.cell? ⟨gx, 2, none⟩ = some (.int .i64 o) := (blk_cell BX.out 2).trans rfl) | (go_at_call 129; (with_reducible refine (impl_IsNote.calls s a o _ _ IN.out).mono ?_); rintro e w7 ⟨rfl, hb⟩; have n0_ := Aside0.mk (below_step HB.out hb); have n1_ := Aside0.mk (blk_below BK.out hb); have n2_ := Aside0.mk (blk_below BX.out hb); clear HB BK BX hcx0 hcx1 hcx2 hb; have HB := n0_; have BK := n1_; have BX := n2_; clear n0_ n1_ n2_; have hcx0 : w7.cell? ⟨gx, 0, none⟩ = some (.int .i64 s) := (blk_cell BX.out 0).trans rfl; have hcx1 : w7.cell? ⟨gx, 1, none⟩ = some (.int .i64 a) := (blk_cell BX.out 1).trans rfl; have hcx2 : w7.cell? ⟨gx, 2, none⟩ = some (.int .i64 o) := (blk_cell BX.out 2).trans rfl) | (go_at_fn F; (refine (HQ2.out _ HI.out HB.out).mono ?_); rintro e w8 ⟨rfl, hb⟩; have n0_ := Aside0.mk (below_step HB.out hb); have n1_ := Aside0.mk (blk_below BK.out hb); have n2_ := Aside0.mk (blk_below BX.out hb); clear HB BK BX hcx0 hcx1 hcx2 hb; have HB := n0_; have BK := n1_; have BX := n2_; clear n0_ n1_ n2_; have hcx0 : w8.cell? ⟨gx, 0, none⟩ = some (.int .i64 s) := (blk_cell BX.out 0).trans rfl; have hcx1 : w8.cell? ⟨gx, 1, none⟩ = some (.int .i64 a) := (blk_cell BX.out 1).trans rfl; have hcx2 : w8.cell? ⟨gx, 2, none⟩ = some (.int .i64 o) := (blk_cell BX.out 2).trans rfl))
         go_roundg k4
         case measure => omega
         case rel =>
          have hA := HA.out
          have hR := hA.1
          simp only [altI, HI.out, ← HC.out, Bool.and_false, Bool.false_eq_true, if_false] at hR
          refine ⟨wrap64 (a + 1), (by first | rfl | (simp; done) | (simp [*]; done)), ⟨?_, ?_, ?_⟩, BK, HB⟩
          all_goals (rw [wq (x := a + 1) (by omega) (by omega)]; first | exact hR | omega)
        | true =>
         have HQ2 := Aside0.mk HQ
         clear HQ
         have hR := HA.out.1
         simp only [altI, HI.out, ← HC.out, Bool.and_self, if_true, Prod.mk.injEq] at hR
         obtain ⟨rfl, rfl, rfl, rfl⟩ := hR
         go_wp2_with (first | ((with_reducible refine gate_dst (N := 7) rfl ?_); refine box_event ?hg (N := 7) ?hd (cs := #[.int .i64 0, .int .i64 0, .int .i64 0]) (t := 64) ?hr ?_; (case hd => rfl); (case hg => rfl); (case hr => first | (go_simp; done) | (go_simp; rfl)); intro gx hg w5 hbox hb; have n0_ := Aside0.mk (below_step HB.out hb); have n1_ := Aside0.mk (blk_below BK.out hb); have BX := Aside0.mk hbox; have GX := Aside0.mk (by rw [hg]; exact below_size HB.out : w.heap.size ≤ gx); have NX := Aside0.mk (by rw [hg]; exact Nat.ne_of_lt (blk_lt BK.out) : gb ≠ gx); have hcz0 : w5.cell? ⟨gx, 0, none⟩ = some (.int .i64 0) := (blk_cell hbox 0).trans rfl; have hcz1 : w5.cell? ⟨gx, 1, none⟩ = some (.int .i64 0) := (blk_cell hbox 1).trans rfl; have hcz2 : w5.cell? ⟨gx, 2, none⟩ = some (.int .i64 0) := (blk_cell hbox 2).trans rfl; have hfz0 := blk_frozen hbox 0; have hfz1 := blk_frozen hbox 1; have hfz2 := blk_frozen hbox 2; clear HB BK; have HB := n0_; have BK := n1_; clear n0_ n1_ hb hbox hg) | ((with_reducible refine gate_store (t := 64) (p := 7) rfl ?_); refine store_event (t := 64) (p := 7) (v := ?vo) (w1 := set3 w5 gx (.int .i64 s) (.int .i64 a) (.int .i64 o)) ?hg ?ho ?hn ?hr ?_; (case ho => rfl); (case hg => rfl); (case hn => rfl); (case hr => unfold set3; first | (go_simp; done) | (go_simp; rfl)); intro w6 hw; have n0_ : Aside0 (Below w.heap.size w w6) := ⟨by rw [hw]; exact set3_below HB.out GX.out⟩; have n1_ : Aside0 (w6.heap[gb]? = some (.cells #[.int .i64 0, .int .i64 0, .int .i64 0] 64 (0, 0))) := ⟨by rw [hw]; exact set3_far BK.out NX.out⟩; have n2_ : Aside0 (w6.heap[gx]? = some (.cells #[.int .i64 s, .int .i64 a, .int .i64 o] 64 (0, 0))) := ⟨by rw [hw]; exact set3_blk BX.out⟩; clear hcz0 hcz1 hcz2 hfz0 hfz1 hfz2 hw HB BK BX; have HB := n0_; have BK := n1_; have BX := n2_; clear n0_ n1_ n2_; have hcx0 : w6.cell? ⟨gx, 0, none⟩ = some (.int .i64 s) := (blk_cell BX.out 0).trans rfl; have hcx1 : w6.cell? ⟨gx, 1, none⟩ = some (.int .i64 a) := (blk_cell BX.out 1).trans rfl; have hcx2 : w6.cell? ⟨gx, 2, none⟩ = some (.int .i64 o) := (blk_cell BX.out 2).trans rfl) | (go_at_call 129; (with_reducible refine (impl_IsNote.calls s a o _ _ IN.out).mono ?_); rintro e w7 ⟨rfl, hb⟩; have n0_ := Aside0.mk (below_step HB.out hb); have n1_ := Aside0.mk (blk_below BK.out hb); have n2_ := Aside0.mk (blk_below BX.out hb); clear HB BK BX hcx0 hcx1 hcx2 hb; have HB := n0_; have BK := n1_; have BX := n2_; clear n0_ n1_ n2_; have hcx0 : w7.cell? ⟨gx, 0, none⟩ = some (.int .i64 s) := (blk_cell BX.out 0).trans rfl; have hcx1 : w7.cell? ⟨gx, 1, none⟩ = some (.int .i64 a) := (blk_cell BX.out 1).trans rfl; have hcx2 : w7.cell? ⟨gx, 2, none⟩ = some (.int .i64 o) := (blk_cell BX.out 2).trans rfl) | (go_at_fn F; (refine (HQ2.out _ HI.out HB.out).mono ?_); rintro e w8 ⟨rfl, hb⟩; have n0_ := Aside0.mk (below_step HB.out hb); have n1_ := Aside0.mk (blk_below BK.out hb); have n2_ := Aside0.mk (blk_below BX.out hb); clear HB BK BX hcx0 hcx1 hcx2 hb; have HB := n0_; have BK := n1_; have BX := n2_; clear n0_ n1_ n2_; have hcx0 : w8.cell? ⟨gx, 0, none⟩ = some (.int .i64 s) := (blk_cell BX.out 0).trans rfl; have hcx1 : w8.cell? ⟨gx, 1, none⟩ = some (.int .i64 a) := (blk_cell BX.out 1).trans rfl; have hcx2 : w8.cell? ⟨gx, 2, none⟩ = some (.int .i64 o) := (blk_cell BX.out 2).trans rfl; have hcz0 : w8.cell? ⟨gb, 0, none⟩ = some (.int .i64 0) := (blk_cell BK.out 0).trans rfl; have hcz1 : w8.cell? ⟨gb, 1, none⟩ = some (.int .i64 0) := (blk_cell BK.out 1).trans rfl; have hcz2 : w8.cell? ⟨gb, 2, none⟩ = some (.int .i64 0) := (blk_cell BK.out 2).trans rfl; have hfz0 := blk_frozen BK.out 0; have hfz1 := blk_frozen BK.out 1; have hfz2 := blk_frozen BK.out 2; have hnx := NX.out))
         refine bodyPost_ret (results_ct rfl _ _ gb 64 #[.int .i64 s, .int .i64 a, .int .i64 o] (0, 0) _ rfl (set3_blk BK.out) hu64 rfl (by kernel_rfl)) rfl ?_
         exact ⟨rfl, set3_below HB.out GE.out⟩
def qsI (p al s a o : Int) : Bool := pitI s a o == p && a == al
def ssI (p : Int) : Nat → Int → NoteR
 | 0, _ => (0, 0, 0, false)
 | n + 1, al => if (octI (qsI p al) 9 0).2.2.2 = true then octI (qsI p al) 9 0 else ssI p n (al + 1)
def impl_SpellSharp.f (a0 : Int) : Option (Int × Int × Int × Bool) := if 12 ≤ a0 ∧ a0 ≤ 119 then some (ssI a0 2 0) else some (0, 0, 0, false)
set_option maxHeartbeats 8000000 in
set_option maxRecDepth 100000 in
theorem impl_SpellSharp.calls (a0 : Int) (r1 : Int) (r2 : Int) (r3 : Int) (r4 : Bool) (w : World) (h : impl_SpellSharp.f a0 = some (r1, r2, r3, r4)) :
  Calls Try.prog 106 #[.int .i64 a0] w fun e w' => e = .returned (.tuple #[.agg #[.int .i64 r1, .int .i64 r2, .int .i64 r3], .bool r4]) ∧ Below w.heap.size w w' := by
 have hu64 := Try.underlying64
 have eg : ∀ args w, (callFunc 142 args).run Try.prog w = .ok (.enter 142 args) w := enters_of Try.func142 (by kernel_rfl) rfl
 have EG := Aside0.mk eg
 clear eg
 have HB := Aside0.mk (Below.refl w.heap.size w)
 have HI := Aside0.mk (InR_ok a0 12 119)
 unfold impl_SpellSharp.f at h
 by_cases c : 12 ≤ a0 ∧ a0 ≤ 119
 ·
  rw [if_pos c] at h
  rw [decide_eq_true c] at HI
  have HR := Aside0.mk (Option.some.inj h)
  clear h c
  go_enter Try.func106, Try.ntmps106
  go_wp2_with (first
   | ((with_reducible refine gate_dst (N := 1) rfl ?_); refine box_event ?hg (N := 1) ?hd (cs := #[.int .i64 a0]) (t := 3) ?hr ?_; (case hd => rfl); (case hg => rfl); (case hr => first | (go_simp; done) | (go_simp; rfl)); intro gp hg w3 hbox hb; have GTBP := Aside0.mk (by rw [hg]; exact below_size HB.out : w.heap.size ≤ gp); have n0_ := Aside0.mk (below_step HB.out hb); clear HB ; have HB := n0_; clear n0_; have BP := Aside0.mk hbox; clear hbox hb hg)
   | ((with_reducible refine gate_dst (N := 2) rfl ?_); refine box_event ?hg (N := 2) ?hd (cs := #[.int .i64 0, .int .i64 0, .int .i64 0]) (t := 64) ?hr ?_; (case hd => rfl); (case hg => rfl); (case hr => first | (go_simp; done) | (go_simp; rfl)); intro gb hg w4 hbox hb; have GTBK := Aside0.mk (by rw [hg]; exact below_size HB.out : w.heap.size ≤ gb); have NBPBK := Aside0.mk (by rw [hg]; exact Nat.ne_of_lt (blk_lt BP.out) : gp ≠ gb); have n0_ := Aside0.mk (below_step HB.out hb); have n1_ := Aside0.mk (blk_below BP.out hb); clear HB BP; have HB := n0_; have BP := n1_; clear n0_ n1_; have BK := Aside0.mk hbox; clear hbox hb hg; have hcp : w4.cell? ⟨gp, 0, none⟩ = some (.int .i64 a0) := (blk_cell BP.out 0).trans rfl)
   | (go_at_call 82; (with_reducible refine (impl_InRange.calls a0 12 119 true _ HI.out).mono ?_); rintro e w' ⟨rfl, ⟨nd, rfl⟩⟩; have hb := pw_below_drewN (Below.refl w4.heap.size w4) nd; have n0_ := Aside0.mk (below_step HB.out hb); have n1_ := Aside0.mk (blk_below BP.out hb); have n2_ := Aside0.mk (blk_below BK.out hb); clear HB BP BK; have HB := n0_; have BP := n1_; have BK := n2_; clear n0_ n1_ n2_; generalize w4.drewN nd = w5 at *; clear hb hcp)
   | ((with_reducible refine gate_dst (N := 4) rfl ?_); refine box_event ?hg (N := 4) ?hd (cs := #[.int .i64 0]) (t := 3) ?hr ?_; (case hd => rfl); (case hg => rfl); (case hr => first | (go_simp; done) | (go_simp; rfl)); intro ga hg w6 hbox hb; have GTBA := Aside0.mk (by rw [hg]; exact below_size HB.out : w.heap.size ≤ ga); have NBPBA := Aside0.mk (by rw [hg]; exact Nat.ne_of_lt (blk_lt BP.out) : gp ≠ ga); have NBKBA := Aside0.mk (by rw [hg]; exact Nat.ne_of_lt (blk_lt BK.out) : gb ≠ ga); have n0_ := Aside0.mk (below_step HB.out hb); have n1_ := Aside0.mk (blk_below BP.out hb); have n2_ := Aside0.mk (blk_below BK.out hb); clear HB BP BK; have HB := n0_; have BP := n1_; have BK := n2_; clear n0_ n1_ n2_; have BA := Aside0.mk hbox; clear hbox hb hg; have hca : w6.cell? ⟨ga, 0, none⟩ = some (.int .i64 0) := (blk_cell BA.out 0).trans rfl; have hfa := blk_frozen BA.out 0))
  go_loopg [4] 2 (fun gg v4 w' => ∃ (ga : Nat) (al : Int), v4 = .pointer (some ⟨ga, 0, none⟩) ∧ Aside0 (ssI a0 gg al = (r1, r2, r3, r4) ∧ al + gg = 2 ∧ 0 ≤ al) ∧ Aside0 (gp ≠ ga ∧ gb ≠ ga ∧ w.heap.size ≤ ga) ∧ Aside0 (w'.heap[ga]? = some (.cells #[.int .i64 al] 3 (0, 0))) ∧ Aside0 (w'.heap[gp]? = some (.cells #[.int .i64 a0] 3 (0, 0))) ∧ Aside0 (w'.heap[gb]? = some (.cells #[.int .i64 0, .int .i64 0, .int .i64 0] 64 (0, 0))) ∧ Aside0 (Below w.heap.size w w'))
  case atStart => exact ⟨ga, 0, by first | rfl | simp, ⟨HR.out, by omega, by omega⟩, ⟨NBPBA.out, NBKBA.out, GTBA.out⟩, ⟨blk_put (cs := #[.int .i64 0]) BA.out 0 _ rfl⟩, ⟨blk_far BP.out (p := ⟨ga, 0, none⟩) NBPBA.out _⟩, ⟨blk_far BK.out (p := ⟨ga, 0, none⟩) NBKBA.out _⟩, ⟨below_set HB.out GTBA.out⟩⟩
  case round =>
   clear HR BA BP BK HB hca hfa NBPBA NBKBA GTBA
   obtain ⟨ga, al, rfl, HO, NA, BA, BP, BK, HB⟩ := hrel
   have hca : wr.cell? ⟨ga, 0, none⟩ = some (.int .i64 al) := (blk_cell BA.out 0).trans rfl
   cases gk with
   | zero =>
    have hO := HO.out
    have hb0 : decide (al ≤ 1) = false := decide_eq_false (by omega)
    have hR := hO.1
    simp only [ssI, Prod.mk.injEq] at hR
    obtain ⟨rfl, rfl, rfl, rfl⟩ := hR
    clear hO
    have hcBK0 : wr.cell? ⟨gb, 0, none⟩ = some (.int .i64 0) := (blk_cell BK.out 0).trans rfl
    have hcBK1 : wr.cell? ⟨gb, 1, none⟩ = some (.int .i64 0) := (blk_cell BK.out 1).trans rfl
    have hcBK2 : wr.cell? ⟨gb, 2, none⟩ = some (.int .i64 0) := (blk_cell BK.out 2).trans rfl
    have hfBK0 := blk_frozen BK.out 0
    have hfBK1 := blk_frozen BK.out 1
    have hfBK2 := blk_frozen BK.out 2
    go_wp2
    refine bodyPost_ret (results_ct rfl _ _ gb 64 #[.int .i64 0, .int .i64 0, .int .i64 0] (0, 0) _ rfl (set3_blk BK.out) hu64 rfl (by kernel_rfl)) rfl ?_
    exact ⟨rfl, set3_below HB.out GTBK.out⟩
   | succ k2 =>
    have hO := HO.out
    have hb0 : decide (al ≤ 1) = true := decide_eq_true (by omega)
    have HQ : Aside0 (∀ s a o W, isNoteI s a o = true → Below wr.heap.size wr W → Calls Try.prog 142 #[.agg #[.int .i64 s, .int .i64 a, .int .i64 o], .pointer (some ⟨gp, 0, none⟩), .pointer (some ⟨ga, 0, none⟩)] W fun e w' => e = .returned (.bool (qsI a0 al s a o)) ∧ Below W.heap.size W w') :=
     ⟨fun s a o W hi hb => ss_pred a0 al gp ga s a o W (isNoteI_b hi).1 (isNoteI_b hi).2.1 (isNoteI_b hi).2.2 ((blk_cell (blk_below BP.out hb) 0).trans rfl) ((blk_cell (blk_below BA.out hb) 0).trans rfl)⟩
    rcases hX : octI (qsI a0 al) 9 0 with ⟨x1, x2, x3, x4⟩
    have HX := Aside0.mk hX
    have hR := hO.1
    simp only [ssI, hX] at hR
    have HR := Aside0.mk hR
    clear hO hX hR
    cases x4
    ·
     go_wp2_with (first
      | (go_at_call 103; refine (notes_calls 142 (.pointer (some ⟨gp, 0, none⟩)) (.pointer (some ⟨ga, 0, none⟩)) (qsI a0 al) x1 x2 x3 false _ EG.out HQ HX.out).mono ?_; rintro e w7 ⟨rfl, hb⟩; have n0_ := Aside0.mk (below_step HB.out hb); have n1_ := Aside0.mk (blk_below BP.out hb); have n2_ := Aside0.mk (blk_below BK.out hb); have n3_ := Aside0.mk (blk_below BA.out hb); clear HB BP BK BA; have HB := n0_; have BP := n1_; have BK := n2_; have BA := n3_; clear n0_ n1_ n2_ n3_; clear hb hca)
      | ((with_reducible refine gate_dst (N := 5) rfl ?_); refine box_event ?hg (N := 5) ?hd (cs := #[.int .i64 0, .int .i64 0, .int .i64 0]) (t := 64) ?hr ?_; (case hd => rfl); (case hg => rfl); (case hr => first | (go_simp; done) | (go_simp; rfl)); intro gx hg w8 hbox hb; have GTBX := Aside0.mk (by rw [hg]; exact below_size HB.out : w.heap.size ≤ gx); have NBPBX := Aside0.mk (by rw [hg]; exact Nat.ne_of_lt (blk_lt BP.out) : gp ≠ gx); have NBKBX := Aside0.mk (by rw [hg]; exact Nat.ne_of_lt (blk_lt BK.out) : gb ≠ gx); have NBABX := Aside0.mk (by rw [hg]; exact Nat.ne_of_lt (blk_lt BA.out) : ga ≠ gx); have n0_ := Aside0.mk (below_step HB.out hb); have n1_ := Aside0.mk (blk_below BP.out hb); have n2_ := Aside0.mk (blk_below BK.out hb); have n3_ := Aside0.mk (blk_below BA.out hb); clear HB BP BK BA; have HB := n0_; have BP := n1_; have BK := n2_; have BA := n3_; clear n0_ n1_ n2_ n3_; have BX := Aside0.mk hbox; clear hbox hb hg; have hcBX0 : w8.cell? ⟨gx, 0, none⟩ = some (.int .i64 0) := (blk_cell BX.out 0).trans rfl; have hcBX1 : w8.cell? ⟨gx, 1, none⟩ = some (.int .i64 0) := (blk_cell BX.out 1).trans rfl; have hcBX2 : w8.cell? ⟨gx, 2, none⟩ = some (.int .i64 0) := (blk_cell BX.out 2).trans rfl; have hfBX0 := blk_frozen BX.out 0; have hfBX1 := blk_frozen BX.out 1; have hfBX2 := blk_frozen BX.out 2)
      | ((with_reducible refine gate_store (t := 64) (p := 5) rfl ?_); refine store_event (t := 64) (p := 5) (v := ?vo) (w1 := set3 w8 gx (.int .i64 x1) (.int .i64 x2) (.int .i64 x3)) ?hg ?ho ?hn ?hr ?_; (case ho => rfl); (case hg => rfl); (case hn => rfl); (case hr => unfold set3; first | (go_simp; done) | (go_simp; rfl)); intro w9 hw; have n0_ : Aside0 (Below w.heap.size w w9) := ⟨by rw [hw]; exact set3_below HB.out GTBX.out⟩; have m0_ := Aside0.mk (set3_blk (x := .int .i64 x1) (y := .int .i64 x2) (z := .int .i64 x3) BX.out); have m1_ := Aside0.mk (set3_far (x := .int .i64 x1) (y := .int .i64 x2) (z := .int .i64 x3) BP.out NBPBX.out); have m2_ := Aside0.mk (set3_far (x := .int .i64 x1) (y := .int .i64 x2) (z := .int .i64 x3) BK.out NBKBX.out); have m3_ := Aside0.mk (set3_far (x := .int .i64 x1) (y := .int .i64 x2) (z := .int .i64 x3) BA.out NBABX.out); rw [← hw] at m0_ m1_ m2_ m3_; clear hcBX0 hcBX1 hcBX2 hfBX0 hfBX1 hfBX2; clear hw HB BX BP BK BA; have HB := n0_; have BX := m0_; have BP := m1_; have BK := m2_; have BA := m3_; clear n0_ m0_ m1_ m2_ m3_; have hca : w9.cell? ⟨ga, 0, none⟩ = some (.int .i64 al) := (blk_cell BA.out 0).trans rfl)
      | ((with_reducible refine gate_dst (N := 4) rfl ?_); refine box_event ?hg (N := 4) ?hd (cs := #[.int .i64 0]) (t := 3) ?hr ?_; (case hd => rfl); (case hg => rfl); (case hr => first | (go_simp; done) | (go_simp; rfl)); intro ha hg w10 hbox hb; have GTBB := Aside0.mk (by rw [hg]; exact below_size HB.out : w.heap.size ≤ ha); have NBPBB := Aside0.mk (by rw [hg]; exact Nat.ne_of_lt (blk_lt BP.out) : gp ≠ ha); have NBKBB := Aside0.mk (by rw [hg]; exact Nat.ne_of_lt (blk_lt BK.out) : gb ≠ ha); have n0_ := Aside0.mk (below_step HB.out hb); have n1_ := Aside0.mk (blk_below BP.out hb); have n2_ := Aside0.mk (blk_below BK.out hb); have n3_ := Aside0.mk (blk_below BA.out hb); clear HB BP BK BA; have HB := n0_; have BP := n1_; have BK := n2_; have BA := n3_; clear n0_ n1_ n2_ n3_; have BB := Aside0.mk hbox; clear hbox hb hg; have hcb : w10.cell? ⟨ha, 0, none⟩ = some (.int .i64 0) := (blk_cell BB.out 0).trans rfl; have hfb := blk_frozen BB.out 0; clear hca))
     go_roundg k2
     case measure => omega
     case rel =>
      have hO := HO.out
      have hR := HR.out
      simp only [Bool.false_eq_true, if_false] at hR
      refine ⟨ha, wrap64 (al + 1), (by first | rfl | (simp; done) | (simp [*]; done)), ⟨?_, ?_, ?_⟩, ⟨NBPBB.out, NBKBB.out, GTBB.out⟩, ⟨?_⟩, ⟨?_⟩, ⟨?_⟩, ⟨?_⟩⟩
      ·
       rw [wq (x := al + 1) (by omega) (by omega)]; exact hR
      ·
       rw [wq (x := al + 1) (by omega) (by omega)]; omega
      ·
       rw [wq (x := al + 1) (by omega) (by omega)]; omega
      ·
       exact blk_put (cs := #[.int .i64 al]) (blk_put (cs := #[.int .i64 0]) BB.out 0 _ rfl) 0 _ rfl
      ·
       exact blk_far (blk_far BP.out (p := ⟨ha, 0, none⟩) NBPBB.out _) (p := ⟨ha, 0, none⟩) NBPBB.out _
      ·
       exact blk_far (blk_far BK.out (p := ⟨ha, 0, none⟩) NBKBB.out _) (p := ⟨ha, 0, none⟩) NBKBB.out _
      ·
       exact below_set (below_set HB.out GTBB.out) GTBB.out
    ·
     have hR := HR.out
     simp only [if_true, Prod.mk.injEq] at hR
     obtain ⟨rfl, rfl, rfl, rfl⟩ := hR
     go_wp2_with (first
      | (go_at_call 103; refine (notes_calls 142 (.pointer (some ⟨gp, 0, none⟩)) (.pointer (some ⟨ga, 0, none⟩)) (qsI a0 al) x1 x2 x3 true _ EG.out HQ HX.out).mono ?_; rintro e w7 ⟨rfl, hb⟩; have n0_ := Aside0.mk (below_step HB.out hb); have n1_ := Aside0.mk (blk_below BP.out hb); have n2_ := Aside0.mk (blk_below BK.out hb); have n3_ := Aside0.mk (blk_below BA.out hb); clear HB BP BK BA; have HB := n0_; have BP := n1_; have BK := n2_; have BA := n3_; clear n0_ n1_ n2_ n3_; clear hb hca)
      | ((with_reducible refine gate_dst (N := 5) rfl ?_); refine box_event ?hg (N := 5) ?hd (cs := #[.int .i64 0, .int .i64 0, .int .i64 0]) (t := 64) ?hr ?_; (case hd => rfl); (case hg => rfl); (case hr => first | (go_simp; done) | (go_simp; rfl)); intro gx hg w8 hbox hb; have GTBX := Aside0.mk (by rw [hg]; exact below_size HB.out : w.heap.size ≤ gx); have NBPBX := Aside0.mk (by rw [hg]; exact Nat.ne_of_lt (blk_lt BP.out) : gp ≠ gx); have NBKBX := Aside0.mk (by rw [hg]; exact Nat.ne_of_lt (blk_lt BK.out) : gb ≠ gx); have NBABX := Aside0.mk (by rw [hg]; exact Nat.ne_of_lt (blk_lt BA.out) : ga ≠ gx); have n0_ := Aside0.mk (below_step HB.out hb); have n1_ := Aside0.mk (blk_below BP.out hb); have n2_ := Aside0.mk (blk_below BK.out hb); have n3_ := Aside0.mk (blk_below BA.out hb); clear HB BP BK BA; have HB := n0_; have BP := n1_; have BK := n2_; have BA := n3_; clear n0_ n1_ n2_ n3_; have BX := Aside0.mk hbox; clear hbox hb hg; have hcBX0 : w8.cell? ⟨gx, 0, none⟩ = some (.int .i64 0) := (blk_cell BX.out 0).trans rfl; have hcBX1 : w8.cell? ⟨gx, 1, none⟩ = some (.int .i64 0) := (blk_cell BX.out 1).trans rfl; have hcBX2 : w8.cell? ⟨gx, 2, none⟩ = some (.int .i64 0) := (blk_cell BX.out 2).trans rfl; have hfBX0 := blk_frozen BX.out 0; have hfBX1 := blk_frozen BX.out 1; have hfBX2 := blk_frozen BX.out 2)
      | ((with_reducible refine gate_store (t := 64) (p := 5) rfl ?_); refine store_event (t := 64) (p := 5) (v := ?vo) (w1 := set3 w8 gx (.int .i64 x1) (.int .i64 x2) (.int .i64 x3)) ?hg ?ho ?hn ?hr ?_; (case ho => rfl); (case hg => rfl); (case hn => rfl); (case hr => unfold set3; first | (go_simp; done) | (go_simp; rfl)); intro w9 hw; have n0_ : Aside0 (Below w.heap.size w w9) := ⟨by rw [hw]; exact set3_below HB.out GTBX.out⟩; have m0_ := Aside0.mk (set3_blk (x := .int .i64 x1) (y := .int .i64 x2) (z := .int .i64 x3) BX.out); have m1_ := Aside0.mk (set3_far (x := .int .i64 x1) (y := .int .i64 x2) (z := .int .i64 x3) BP.out NBPBX.out); have m2_ := Aside0.mk (set3_far (x := .int .i64 x1) (y := .int .i64 x2) (z := .int .i64 x3) BK.out NBKBX.out); have m3_ := Aside0.mk (set3_far (x := .int .i64 x1) (y := .int .i64 x2) (z := .int .i64 x3) BA.out NBABX.out); rw [← hw] at m0_ m1_ m2_ m3_; clear hcBX0 hcBX1 hcBX2 hfBX0 hfBX1 hfBX2; clear hw HB BX BP BK BA; have HB := n0_; have BX := m0_; have BP := m1_; have BK := m2_; have BA := m3_; clear n0_ m0_ m1_ m2_ m3_; have hnx := NBKBX.out; have hcBK0 : w9.cell? ⟨gb, 0, none⟩ = some (.int .i64 0) := (blk_cell BK.out 0).trans rfl; have hcBK1 : w9.cell? ⟨gb, 1, none⟩ = some (.int .i64 0) := (blk_cell BK.out 1).trans rfl; have hcBK2 : w9.cell? ⟨gb, 2, none⟩ = some (.int .i64 0) := (blk_cell BK.out 2).trans rfl; have hfBK0 := blk_frozen BK.out 0; have hfBK1 := blk_frozen BK.out 1; have hfBK2 := blk_frozen BK.out 2; have hcBX0 : w9.cell? ⟨gx, 0, none⟩ = some (.int .i64 x1) := (blk_cell BX.out 0).trans rfl; have hcBX1 : w9.cell? ⟨gx, 1, none⟩ = some (.int .i64 x2) := (blk_cell BX.out 1).trans rfl; have hcBX2 : w9.cell? ⟨gx, 2, none⟩ = some (.int .i64 x3) := (blk_cell BX.out 2).trans rfl)
      )
     refine bodyPost_ret (results_ct rfl _ _ gb 64 #[.int .i64 x1, .int .i64 x2, .int .i64 x3] (0, 0) _ rfl (set3_blk BK.out) hu64 rfl (by kernel_rfl)) rfl ?_
     exact ⟨rfl, set3_below HB.out GTBK.out⟩
 ·
  rw [if_neg c] at h
  rw [decide_eq_false c] at HI
  have h2 := Option.some.inj h
  simp only [Prod.mk.injEq] at h2
  obtain ⟨rfl, rfl, rfl, rfl⟩ := h2
  clear h c
  go_enter Try.func106, Try.ntmps106
  go_wp2_with (first
   | ((with_reducible refine gate_dst (N := 1) rfl ?_); refine box_event ?hg (N := 1) ?hd (cs := #[.int .i64 a0]) (t := 3) ?hr ?_; (case hd => rfl); (case hg => rfl); (case hr => first | (go_simp; done) | (go_simp; rfl)); intro gp hg w3 hbox hb; have GTBP := Aside0.mk (by rw [hg]; exact below_size HB.out : w.heap.size ≤ gp); have n0_ := Aside0.mk (below_step HB.out hb); clear HB ; have HB := n0_; clear n0_; have BP := Aside0.mk hbox; clear hbox hb hg)
   | ((with_reducible refine gate_dst (N := 2) rfl ?_); refine box_event ?hg (N := 2) ?hd (cs := #[.int .i64 0, .int .i64 0, .int .i64 0]) (t := 64) ?hr ?_; (case hd => rfl); (case hg => rfl); (case hr => first | (go_simp; done) | (go_simp; rfl)); intro gb hg w4 hbox hb; have GTBK := Aside0.mk (by rw [hg]; exact below_size HB.out : w.heap.size ≤ gb); have NBPBK := Aside0.mk (by rw [hg]; exact Nat.ne_of_lt (blk_lt BP.out) : gp ≠ gb); have n0_ := Aside0.mk (below_step HB.out hb); have n1_ := Aside0.mk (blk_below BP.out hb); clear HB BP; have HB := n0_; have BP := n1_; clear n0_ n1_; have BK := Aside0.mk hbox; clear hbox hb hg; have hcp : w4.cell? ⟨gp, 0, none⟩ = some (.int .i64 a0) := (blk_cell BP.out 0).trans rfl)
   | (go_at_call 82; (with_reducible refine (impl_InRange.calls a0 12 119 false _ HI.out).mono ?_); rintro e w' ⟨rfl, ⟨nd, rfl⟩⟩; have hb := pw_below_drewN (Below.refl w4.heap.size w4) nd; have n0_ := Aside0.mk (below_step HB.out hb); have n1_ := Aside0.mk (blk_below BP.out hb); have n2_ := Aside0.mk (blk_below BK.out hb); clear HB BP BK; have HB := n0_; have BP := n1_; have BK := n2_; clear n0_ n1_ n2_; generalize w4.drewN nd = w5 at *; clear hb hcp; have hcBK0 : w5.cell? ⟨gb, 0, none⟩ = some (.int .i64 0) := (blk_cell BK.out 0).trans rfl; have hcBK1 : w5.cell? ⟨gb, 1, none⟩ = some (.int .i64 0) := (blk_cell BK.out 1).trans rfl; have hcBK2 : w5.cell? ⟨gb, 2, none⟩ = some (.int .i64 0) := (blk_cell BK.out 2).trans rfl; have hfBK0 := blk_frozen BK.out 0; have hfBK1 := blk_frozen BK.out 1; have hfBK2 := blk_frozen BK.out 2))
  refine bodyPost_ret (results_ct rfl _ _ gb 64 #[.int .i64 0, .int .i64 0, .int .i64 0] (0, 0) _ rfl (set3_blk BK.out) hu64 rfl (by kernel_rfl)) rfl ?_
  exact ⟨rfl, set3_below HB.out GTBK.out⟩
end Go.Proofs.Ytiophiipmgpaeaa.F

namespace Go.Proofs.Ytiophiipmgpaeaa.F
open Go.RowKit Go.Proofs.YtiophiipmgpaeaaW.PrintWords Go.Proofs.YtiophiipmgpaeaaW.PrintLast Go.Proofs.YtiophiipmgpaeaaW.PrintMore
attribute [local go_sem] max2_int min2_int max_two min_two max_three min_three max_four min_four
set_option linter.unusedVariables false
set_option linter.unusedSimpArgs false
def slices_Index_int_int.l0 : Nat → List Int → Int → Int → Int → Option (Int)
 | 0, _, _, _, _ => none
 | k + 1, x0, x1, x7, x8 => if x8 < x7 then (if 0 ≤ x8 then (if x8 < (x0.length : Int) then (if x1 = (rd x0 x8) then (some x8) else (slices_Index_int_int.l0 k x0 x1 x7 (wrap64 (x8 + 1)))) else (none)) else (none)) else (some (-1))
def slices_Index_int_int.f (k : Nat) (l0 : List Int) (a1 : Int) : Option (Int) := slices_Index_int_int.l0 k l0 a1 (l0.length : Int) 0
set_option maxHeartbeats 8000000 in
set_option maxRecDepth 100000 in
theorem slices_Index_int_int.calls (k : Nat) (A0 : Option Addr) (c0 : Nat) (l0 : List Int) (a1 : Int) (r : Int) (w : World) (hr0 : Kd.C (Kd.int .i64) w A0 l0.length l0) (hc0 : l0.length ≤ c0) (h : slices_Index_int_int.f k l0 a1 = some r) :
  Calls Try.prog 128 #[.slice A0 l0.length c0, .int .i64 a1] w fun e w' => e = .returned (.int .i64 r) ∧ Drawn0 w w' := by
 have HR0 := Aside0.mk hr0
 have HC0 := Aside0.mk hc0
 clear hr0 hc0
 have H : (slices_Index_int_int.l0 k l0 a1 (l0.length : Int) 0) = some r := h
 clear h
 have H' := Aside0.mk H
 clear H
 go_enter Try.func128, Try.ntmps128
 go_wp2
 go_loopg [8] k (fun kq v8 w' => ∃ (x8_1 : Int), v8 = .int .i64 x8_1 ∧ Aside0 (slices_Index_int_int.l0 kq l0 a1 (l0.length : Int) x8_1 = some r) ∧ Aside0 (kq ≤ k) ∧ Drawn0 w w')
 case atStart => exact ⟨(0), (by first | rfl | (simp; done) | (simp [*]; done)), H', ⟨Nat.le_refl _⟩, by repeat (first | exact Drawn0.refl _ | apply Drawn0.step)⟩
 case round =>
  clear H'
  try clear c1
  try clear p2
  obtain ⟨x8_1, rfl, HA, HK1, ⟨m1, rfl⟩⟩ := hrel
  cases gk with
  | zero => exact absurd HA.out (by simp [slices_Index_int_int.l0])
  | succ k1 =>
   have H := HA.out
   clear HA
   simp only [slices_Index_int_int.l0] at H
   by_cases c3 : x8_1 < (l0.length : Int)
   ·
    rw [if_pos c3] at H
    have c3b0 : decide (x8_1 < (l0.length : Int)) = true := decide_eq_true c3
    clear c3
    by_cases c4 : 0 ≤ x8_1
    ·
     rw [if_pos c4] at H
     have c4b0 : decide (0 ≤ x8_1) = true := decide_eq_true c4
     clear c4
     by_cases c5 : x8_1 < (l0.length : Int)
     ·
      rw [if_pos c5] at H
      have c5b0 : decide (x8_1 < (l0.length : Int)) = true := decide_eq_true c5
      clear c5
      by_cases c6 : a1 = (rd l0 x8_1)
      ·
       rw [if_pos c6] at H
       have c6b0 : (a1 == (rd l0 x8_1)) = true := beq_iff_eq.mpr c6
       have c6b1 : (a1 != (rd l0 x8_1)) = false := bne_eq_false_iff_eq.mpr c6
       clear c6
       obtain rfl := Option.some.inj H
       have p1466 : 0 ≤ (x8_1 : Int) := of_decide_eq_true (by first | (with_reducible assumption) | assumption)
       have q1466 : x8_1 < (l0.length : Int) := of_decide_eq_true (by first | (with_reducible assumption) | assumption)
       obtain ⟨ad1466, e1466, hx1466_0⟩ := Kd.at_int HR0.out x8_1 p1466 q1466
       cases e1466
       replace p1466 := eq_true p1466
       replace q1466 := eq_true q1466
       go_wp2
       go_ret
       exact ⟨by first | rfl | (simp; done) | (simp [*]; done), by repeat (first | exact Drawn0.refl _ | apply Drawn0.step)⟩
      ·
       rw [if_neg c6] at H
       have c6b0 : (a1 == (rd l0 x8_1)) = false := beq_eq_false_iff_ne.mpr c6
       have c6b1 : (a1 != (rd l0 x8_1)) = true := bne_iff_ne.mpr c6
       have H' := Aside0.mk H
       clear H
       have p1466 : 0 ≤ (x8_1 : Int) := of_decide_eq_true (by first | (with_reducible assumption) | assumption)
       have q1466 : x8_1 < (l0.length : Int) := of_decide_eq_true (by first | (with_reducible assumption) | assumption)
       obtain ⟨ad1466, e1466, hx1466_0⟩ := Kd.at_int HR0.out x8_1 p1466 q1466
       cases e1466
       replace p1466 := eq_true p1466
       replace q1466 := eq_true q1466
       go_wp2
       go_roundg k1
       case measure => have := HK1.out; omega
       case rel => exact ⟨(wrap64 (x8_1 + 1)), (by first | rfl | (simp; done) | (simp [*]; done)), H', ⟨by have := HK1.out; omega⟩, by repeat (first | exact Drawn0.refl _ | apply Drawn0.step)⟩
     ·
      rw [if_neg c5] at H
      exact absurd H (by simp)
    ·
     rw [if_neg c4] at H
     exact absurd H (by simp)
   ·
    rw [if_neg c3] at H
    have c3b0 : decide (x8_1 < (l0.length : Int)) = false := decide_eq_false c3
    clear c3
    obtain rfl := Option.some.inj H
    go_wp2
    go_ret
    exact ⟨by first | rfl | (simp; done) | (simp [*]; done), by repeat (first | exact Drawn0.refl _ | apply Drawn0.step)⟩
end Go.Proofs.Ytiophiipmgpaeaa.F

namespace Go.Proofs.Ytiophiipmgpaeaa.F
open Go.RowKit Go.Proofs.YtiophiipmgpaeaaW.PrintWords Go.Proofs.YtiophiipmgpaeaaW.PrintLast Go.Proofs.YtiophiipmgpaeaaW.PrintMore
attribute [local go_sem] max2_int min2_int max_two min_two max_three min_three max_four min_four
set_option linter.unusedVariables false
set_option linter.unusedSimpArgs false
def impl_AlterIn.j0 : Nat → Int → Int → Bool → Option (Int)
 | 0, _, _, _ => none
 | k + 1, x0, x1, x14 => if x14 = true then (some 0) else ((slices_Index_int_int.f k (([3, 0, 4, 1, 5, 2, 6] : List Int)) x1).bind fun t1472 => (if t1472 < x0 then (some 1) else (if (wrap64 (6 - t1472)) < (wrap64 (-x0)) then (some (-1)) else (some 0))))
def impl_AlterIn.f (k : Nat) (a0 : Int) (a1 : Int) : Option (Int) := (impl_IsKey.f a0).bind fun t1467 => (if t1467 = true then ((impl_InRange.f a1 0 6).bind fun t1468 => (impl_AlterIn.j0 k a0 a1 (!t1468))) else (impl_AlterIn.j0 k a0 a1 true))
set_option maxHeartbeats 8000000 in
set_option maxRecDepth 100000 in
theorem impl_AlterIn.calls (k : Nat) (a0 : Int) (a1 : Int) (r : Int) (w : World) (h : impl_AlterIn.f k a0 a1 = some r) :
  Calls Try.prog 73 #[.int .i64 a0, .int .i64 a1] w fun e w' => e = .returned (.int .i64 r) ∧ Below w.heap.size w w' := by
 have HB := Aside0.mk (Below.refl w.heap.size w)
 have H : ((impl_IsKey.f a0).bind fun t1467 => (if t1467 = true then ((impl_InRange.f a1 0 6).bind fun t1468 => (impl_AlterIn.j0 k a0 a1 (!t1468))) else (impl_AlterIn.j0 k a0 a1 true))) = some r := h
 clear h
 have HC3 := Aside0.mk H
 clear H
 go_enter Try.func73, Try.ntmps73
 go_upto_region 1 with (fail)
 go_cut [14] (fun v14 wc => ∃ (kq : Nat) (x14_2 : Bool), v14 = .bool x14_2 ∧ Aside0 (impl_AlterIn.j0 kq a0 a1 x14_2 = some r) ∧ Aside0 (kq ≤ k) ∧ Aside0 (Below w.heap.size w wc))
 case first =>
  have H := HC3.out
  clear HC3
  replace H := Option.bind_eq_some_iff.mp H
  obtain ⟨t1467, A40, H⟩ := H
  try dsimp only at H
  have A4 := Aside0.mk A40
  clear A40
  by_cases c5 : t1467 = true
  ·
   subst c5
   rw [if_pos rfl] at H
   replace H := Option.bind_eq_some_iff.mp H
   obtain ⟨t1468, A60, H⟩ := H
   try dsimp only at H
   have A6 := Aside0.mk A60
   clear A60
   have H' := Aside0.mk H
   clear H
   go_wp2_with (first | ((with_reducible refine gate_callee (f := 79) rfl ?_); refine goesL_ (some 8) rfl rfl Try.func79 (by kernel_rfl) rfl #[.int .i64 a0] rfl (by (try simp only [List.map_toArray, List.map_cons, List.map_nil]); first | done | rfl | (simp only [List.length_drop, List.length_take]; rfl)) ?_; (with_reducible refine (impl_IsKey.calls a0 true _ A4.out).mono ?_); rintro e w' ⟨rfl, ⟨nd, rfl⟩⟩; refine ⟨_, rfl, ?_⟩) | (go_at_call 82; (with_reducible refine (impl_InRange.calls a1 0 6 t1468 _ A6.out).mono ?_); rintro e w' ⟨rfl, ⟨nd, rfl⟩⟩))
   go_meet
   case rel => exact ⟨_, (!t1468), (by first | rfl | (simp; done) | (simp [*]; done)), H', ⟨by first | omega | exact Nat.le_refl _⟩, ⟨by repeat (first | (with_reducible first | exact HB.out | apply below_alloc | apply pw_below_drewN | apply below_drew1) | exact HB.out)⟩⟩
  ·
   replace c5 := Bool.eq_false_iff.mpr c5
   subst c5
   rw [if_neg (show ¬ (false = true) by decide)] at H
   have H' := Aside0.mk H
   clear H
   go_wp2_with (first | ((with_reducible refine gate_callee (f := 79) rfl ?_); refine goesL_ (some 8) rfl rfl Try.func79 (by kernel_rfl) rfl #[.int .i64 a0] rfl (by (try simp only [List.map_toArray, List.map_cons, List.map_nil]); first | done | rfl | (simp only [List.length_drop, List.length_take]; rfl)) ?_; (with_reducible refine (impl_IsKey.calls a0 false _ A4.out).mono ?_); rintro e w' ⟨rfl, ⟨nd, rfl⟩⟩; refine ⟨_, rfl, ?_⟩))
   go_meet
   case rel => exact ⟨_, (true), (by first | rfl | (simp; done) | (simp [*]; done)), H', ⟨by first | omega | exact Nat.le_refl _⟩, ⟨by repeat (first | (with_reducible first | exact HB.out | apply below_alloc | apply pw_below_drewN | apply below_drew1) | exact HB.out)⟩⟩
 case rest =>
  clear HC3
  try clear p2
  try clear c5
  obtain ⟨kq, x14_2, rfl, HA, HJ2, HB⟩ := hcut
  cases kq with
  | zero => exact absurd HA.out (by simp [impl_AlterIn.j0])
  | succ kj2 =>
   have H := HA.out
   clear HA
   simp only [impl_AlterIn.j0] at H
   by_cases c7 : x14_2 = true
   ·
    subst c7
    rw [if_pos rfl] at H
    obtain rfl := Option.some.inj H
    go_wp2
    go_ret
    exact ⟨by first | rfl | (simp [errW_none, errW_some] <;> rfl) | (simp [*, errW_none, errW_some] <;> rfl), by repeat (first | (with_reducible first | exact HB.out | apply below_alloc | apply pw_below_drewN | apply below_drew1) | exact HB.out)⟩
   ·
    replace c7 := Bool.eq_false_iff.mpr c7
    subst c7
    rw [if_neg (show ¬ (false = true) by decide)] at H
    obtain ⟨y1469, hy1469⟩ : ∃ y_ : List Int, y_ = (([3, 0, 4, 1, 5, 2, 6] : List Int)) := ⟨_, rfl⟩
    replace H : ((slices_Index_int_int.f kj2 y1469 a1).bind fun t1472 => (if t1472 < a0 then (some 1) else (if (wrap64 (6 - t1472)) < (wrap64 (-a0)) then (some (-1)) else (some 0)))) = some r := by first | (rw [hy1469]; with_reducible exact H) | (have H2_ := (Option.bind_some _ _).symm.trans H; rw [hy1469]; with_reducible exact H2_) | (have H2_ := (Option.bind_some _ _).symm.trans H; with_reducible exact H2_) | with_reducible exact H | (rw [hy1469]; exact H) | exact H
    have Ny1469 := Aside0.mk hy1469
    clear hy1469
    replace H := Option.bind_eq_some_iff.mp H
    obtain ⟨t1472, A80, H⟩ := H
    try dsimp only at H
    have A8 := Aside0.mk A80
    clear A80
    by_cases c9 : t1472 < a0
    ·
     rw [if_pos c9] at H
     have c9b0 : decide (t1472 < a0) = true := decide_eq_true c9
     clear c9
     obtain rfl := Option.some.inj H
     go_wp2_with (first | ((with_reducible refine gate_dst (N := 15) rfl ?_); refine Kd.R_lit (Kd.int .i64) _ 3 ?hg (N := 15) ?hd (xs := ([3, 0, 4, 1, 5, 2, 6] : List Int)) (inner := [.int .i64 3, .int .i64 0, .int .i64 4, .int .i64 1, .int .i64 5, .int .i64 2, .int .i64 6]) (ok := fun _ => True) (okp := fun _ => True) ?hr ?hp (fun _ hk => hk) trivial (Below.refl _ _) (Nat.le_refl _) (by simp) ?_; (case hd => rfl); (case hg => rfl); (case hr => first | (go_simp; done) | (go_simp; rfl)); (case hp => exact (Reps.one (show Kd.M (Kd.int .i64) _ _ _ 3 [.int .i64 3] from rfl) (Reps.one (show Kd.M (Kd.int .i64) _ _ _ 0 [.int .i64 0] from rfl) (Reps.one (show Kd.M (Kd.int .i64) _ _ _ 4 [.int .i64 4] from rfl) (Reps.one (show Kd.M (Kd.int .i64) _ _ _ 1 [.int .i64 1] from rfl) (Reps.one (show Kd.M (Kd.int .i64) _ _ _ 5 [.int .i64 5] from rfl) (Reps.one (show Kd.M (Kd.int .i64) _ _ _ 2 [.int .i64 2] from rfl) (Reps.one (show Kd.M (Kd.int .i64) _ _ _ 6 [.int .i64 6] from rfl) (Reps.none _ _))))))))); intro v1470 w10 ho11 hb hg_ hnew_; clear hg_ hnew_; (first | rw [← Ny1469.out] at ho11 | (simp only [Int.reduceToNat] at ho11; rw [← Ny1469.out] at ho11)); have n0_ := Aside0.mk (Kd.R_lower ho11 (below_size (by repeat (first | (with_reducible first | exact HB.out | apply below_alloc | apply pw_below_drewN | apply below_drew1) | exact HB.out)))); have n1_ := Aside0.mk (below_step (by repeat (first | (with_reducible first | exact HB.out | apply below_alloc | apply pw_below_drewN | apply below_drew1) | exact HB.out)) hb); clear HB; have HO1471 := n0_; have HB := n1_; clear n0_ n1_; clear hb ho11; obtain ⟨Ao12, co12, eo12⟩ := Kd.R_slice HO1471.out; subst eo12) | ((with_reducible refine gate_callee (f := 128) rfl ?_); refine goesL_ (some 18) rfl rfl Try.func128 (by kernel_rfl) rfl #[.slice Ao12 y1469.length co12, .int .i64 a1] rfl (by (try simp only [List.map_toArray, List.map_cons, List.map_nil]); first | done | rfl | (simp only [List.length_drop, List.length_take]; rfl)) ?_; (with_reducible refine (slices_Index_int_int.calls kj2 _ _ y1469 a1 t1472 _ ?side1 ?side2 A8.out).mono ?_); (case side1 => repeat (first | exact (Kd.R_reads' HO1471.out).2.2 | (with_reducible refine Kd.C_alloc ?_ _) | (with_reducible refine Kd.C_drewN ?_ _) | (with_reducible refine Kd.C_drew ?_))); (case side2 => exact (Kd.R_reads' HO1471.out).2.1); rintro e w' ⟨rfl, ⟨nd, rfl⟩⟩; refine ⟨_, rfl, ?_⟩))
     go_ret
     exact ⟨by first | rfl | (simp [errW_none, errW_some] <;> rfl) | (simp [*, errW_none, errW_some] <;> rfl), by repeat (first | (with_reducible first | exact HB.out | apply below_alloc | apply pw_below_drewN | apply below_drew1) | exact HB.out)⟩
    ·
     rw [if_neg c9] at H
     have c9b0 : decide (t1472 < a0) = false := decide_eq_false c9
     clear c9
     by_cases c13 : (wrap64 (6 - t1472)) < (wrap64 (-a0))
     ·
      rw [if_pos c13] at H
      have c13b0 : decide ((wrap64 (6 - t1472)) < (wrap64 (-a0))) = true := decide_eq_true c13
      clear c13
      obtain rfl := Option.some.inj H
      go_wp2_with (first | ((with_reducible refine gate_dst (N := 15) rfl ?_); refine Kd.R_lit (Kd.int .i64) _ 3 ?hg (N := 15) ?hd (xs := ([3, 0, 4, 1, 5, 2, 6] : List Int)) (inner := [.int .i64 3, .int .i64 0, .int .i64 4, .int .i64 1, .int .i64 5, .int .i64 2, .int .i64 6]) (ok := fun _ => True) (okp := fun _ => True) ?hr ?hp (fun _ hk => hk) trivial (Below.refl _ _) (Nat.le_refl _) (by simp) ?_; (case hd => rfl); (case hg => rfl); (case hr => first | (go_simp; done) | (go_simp; rfl)); (case hp => exact (Reps.one (show Kd.M (Kd.int .i64) _ _ _ 3 [.int .i64 3] from rfl) (Reps.one (show Kd.M (Kd.int .i64) _ _ _ 0 [.int .i64 0] from rfl) (Reps.one (show Kd.M (Kd.int .i64) _ _ _ 4 [.int .i64 4] from rfl) (Reps.one (show Kd.M (Kd.int .i64) _ _ _ 1 [.int .i64 1] from rfl) (Reps.one (show Kd.M (Kd.int .i64) _ _ _ 5 [.int .i64 5] from rfl) (Reps.one (show Kd.M (Kd.int .i64) _ _ _ 2 [.int .i64 2] from rfl) (Reps.one (show Kd.M (Kd.int .i64) _ _ _ 6 [.int .i64 6] from rfl) (Reps.none _ _))))))))); intro v1470 w14 ho15 hb hg_ hnew_; clear hg_ hnew_; (first | rw [← Ny1469.out] at ho15 | (simp only [Int.reduceToNat] at ho15; rw [← Ny1469.out] at ho15)); have n0_ := Aside0.mk (Kd.R_lower ho15 (below_size (by repeat (first | (with_reducible first | exact HB.out | apply below_alloc | apply pw_below_drewN | apply below_drew1) | exact HB.out)))); have n1_ := Aside0.mk (below_step (by repeat (first | (with_reducible first | exact HB.out | apply below_alloc | apply pw_below_drewN | apply below_drew1) | exact HB.out)) hb); clear HB; have HO1471 := n0_; have HB := n1_; clear n0_ n1_; clear hb ho15; obtain ⟨Ao16, co16, eo16⟩ := Kd.R_slice HO1471.out; subst eo16) | ((with_reducible refine gate_callee (f := 128) rfl ?_); refine goesL_ (some 18) rfl rfl Try.func128 (by kernel_rfl) rfl #[.slice Ao16 y1469.length co16, .int .i64 a1] rfl (by (try simp only [List.map_toArray, List.map_cons, List.map_nil]); first | done | rfl | (simp only [List.length_drop, List.length_take]; rfl)) ?_; (with_reducible refine (slices_Index_int_int.calls kj2 _ _ y1469 a1 t1472 _ ?side1 ?side2 A8.out).mono ?_); (case side1 => repeat (first | exact (Kd.R_reads' HO1471.out).2.2 | (with_reducible refine Kd.C_alloc ?_ _) | (with_reducible refine Kd.C_drewN ?_ _) | (with_reducible refine Kd.C_drew ?_))); (case side2 => exact (Kd.R_reads' HO1471.out).2.1); rintro e w' ⟨rfl, ⟨nd, rfl⟩⟩; refine ⟨_, rfl, ?_⟩))
      go_ret
      exact ⟨by first | rfl | (simp [errW_none, errW_some] <;> rfl) | (simp [*, errW_none, errW_some] <;> rfl), by repeat (first | (with_reducible first | exact HB.out | apply below_alloc | apply pw_below_drewN | apply below_drew1) | exact HB.out)⟩
     ·
      rw [if_neg c13] at H
      have c13b0 : decide ((wrap64 (6 - t1472)) < (wrap64 (-a0))) = false := decide_eq_false c13
      clear c13
      obtain rfl := Option.some.inj H
      go_wp2_with (first | ((with_reducible refine gate_dst (N := 15) rfl ?_); refine Kd.R_lit (Kd.int .i64) _ 3 ?hg (N := 15) ?hd (xs := ([3, 0, 4, 1, 5, 2, 6] : List Int)) (inner := [.int .i64 3, .int .i64 0, .int .i64 4, .int .i64 1, .int .i64 5, .int .i64 2, .int .i64 6]) (ok := fun _ => True) (okp := fun _ => True) ?hr ?hp (fun _ hk => hk) trivial (Below.refl _ _) (Nat.le_refl _) (by simp) ?_; (case hd => rfl); (case hg => rfl); (case hr => first | (go_simp; done) | (go_simp; rfl)); (case hp => exact (Reps.one (show Kd.M (Kd.int .i64) _ _ _ 3 [.int .i64 3] from rfl) (Reps.one (show Kd.M (Kd.int .i64) _ _ _ 0 [.int .i64 0] from rfl) (Reps.one (show Kd.M (Kd.int .i64) _ _ _ 4 [.int .i64 4] from rfl) (Reps.one (show Kd.M (Kd.int .i64) _ _ _ 1 [.int .i64 1] from rfl) (Reps.one (show Kd.M (Kd.int .i64) _ _ _ 5 [.int .i64 5] from rfl) (Reps.one (show Kd.M (Kd.int .i64) _ _ _ 2 [.int .i64 2] from rfl) (Reps.one (show Kd.M (Kd.int .i64) _ _ _ 6 [.int .i64 6] from rfl) (Reps.none _ _))))))))); intro v1470 w17 ho18 hb hg_ hnew_; clear hg_ hnew_; (first | rw [← Ny1469.out] at ho18 | (simp only [Int.reduceToNat] at ho18; rw [← Ny1469.out] at ho18)); have n0_ := Aside0.mk (Kd.R_lower ho18 (below_size (by repeat (first | (with_reducible first | exact HB.out | apply below_alloc | apply pw_below_drewN | apply below_drew1) | exact HB.out)))); have n1_ := Aside0.mk (below_step (by repeat (first | (with_reducible first | exact HB.out | apply below_alloc | apply pw_below_drewN | apply below_drew1) | exact HB.out)) hb); clear HB; have HO1471 := n0_; have HB := n1_; clear n0_ n1_; clear hb ho18; obtain ⟨Ao19, co19, eo19⟩ := Kd.R_slice HO1471.out; subst eo19) | ((with_reducible refine gate_callee (f := 128) rfl ?_); refine goesL_ (some 18) rfl rfl Try.func128 (by kernel_rfl) rfl #[.slice Ao19 y1469.length co19, .int .i64 a1] rfl (by (try simp only [List.map_toArray, List.map_cons, List.map_nil]); first | done | rfl | (simp only [List.length_drop, List.length_take]; rfl)) ?_; (with_reducible refine (slices_Index_int_int.calls kj2 _ _ y1469 a1 t1472 _ ?side1 ?side2 A8.out).mono ?_); (case side1 => repeat (first | exact (Kd.R_reads' HO1471.out).2.2 | (with_reducible refine Kd.C_alloc ?_ _) | (with_reducible refine Kd.C_drewN ?_ _) | (with_reducible refine Kd.C_drew ?_))); (case side2 => exact (Kd.R_reads' HO1471.out).2.1); rintro e w' ⟨rfl, ⟨nd, rfl⟩⟩; refine ⟨_, rfl, ?_⟩))
      go_ret
      exact ⟨by first | rfl | (simp [errW_none, errW_some] <;> rfl) | (simp [*, errW_none, errW_some] <;> rfl), by repeat (first | (with_reducible first | exact HB.out | apply below_alloc | apply pw_below_drewN | apply below_drew1) | exact HB.out)⟩
end Go.Proofs.Ytiophiipmgpaeaa.F

namespace Go.Proofs.Ytiophiipmgpaeaa.F
open Go.RowKit Go.Proofs.YtiophiipmgpaeaaW.PrintWords Go.Proofs.YtiophiipmgpaeaaW.PrintLast Go.Proofs.YtiophiipmgpaeaaW.PrintMore
attribute [local go_sem] max2_int min2_int max_two min_two max_three min_three max_four min_four
set_option linter.unusedVariables false
set_option linter.unusedSimpArgs false
def impl_IsInKey.f (k : Nat) (a0 : Int) (a1_0 : Int) (a1_1 : Int) (a1_2 : Int) : Option (Bool) := (impl_IsKey.f a0).bind fun t1483 => (if t1483 = true then ((impl_IsNote.f a1_0 a1_1 a1_2).bind fun t1484 => (if t1484 = true then ((impl_AlterIn.f k a0 a1_0).bind fun t1485 => (some (a1_1 == t1485))) else (some false))) else (some false))
set_option maxHeartbeats 8000000 in
set_option maxRecDepth 100000 in
theorem impl_IsInKey.calls (k : Nat) (a0 : Int) (a1_0 : Int) (a1_1 : Int) (a1_2 : Int) (r : Bool) (w : World) (h : impl_IsInKey.f k a0 a1_0 a1_1 a1_2 = some r) :
  Calls Try.prog 75 #[.int .i64 a0, .agg #[.int .i64 a1_0, .int .i64 a1_1, .int .i64 a1_2]] w fun e w' => e = .returned (.bool r) ∧ Below w.heap.size w w' := by
 have hu64 := Try.underlying64
 have HB := Aside0.mk (Below.refl w.heap.size w)
 have H : ((impl_IsKey.f a0).bind fun t1483 => (if t1483 = true then ((impl_IsNote.f a1_0 a1_1 a1_2).bind fun t1484 => (if t1484 = true then ((impl_AlterIn.f k a0 a1_0).bind fun t1485 => (some (a1_1 == t1485))) else (some false))) else (some false))) = some r := h
 clear h
 replace H := Option.bind_eq_some_iff.mp H
 obtain ⟨t1483, A30, H⟩ := H
 try dsimp only at H
 have A3 := Aside0.mk A30
 clear A30
 by_cases c4 : t1483 = true
 ·
  subst c4
  rw [if_pos rfl] at H
  replace H := Option.bind_eq_some_iff.mp H
  obtain ⟨t1484, A50, H⟩ := H
  try dsimp only at H
  have A5 := Aside0.mk A50
  clear A50
  by_cases c6 : t1484 = true
  ·
   subst c6
   rw [if_pos rfl] at H
   replace H := Option.bind_eq_some_iff.mp H
   obtain ⟨t1485, A70, H⟩ := H
   try dsimp only at H
   have A7 := Aside0.mk A70
   clear A70
   obtain rfl := Option.some.inj H
   go_enter Try.func75, Try.ntmps75
   try go_wp2_with (first | ((with_reducible refine gate_dst (N := 3) rfl ?_); refine box_event ?hg (N := 3) ?hd (cs := #[.int .i64 a1_0, .int .i64 a1_1, .int .i64 a1_2]) (t := 64) ?hr ?_; (case hd => rfl); (case hg => rfl); (case hr => first | (go_simp; done) | (go_simp; rfl)); intro gb1482 hg w8 hbox hb; have n0_ := Aside0.mk (below_step (by repeat (first | (with_reducible first | exact HB.out | apply below_alloc | apply pw_below_drewN | apply below_drew1) | exact HB.out)) hb); have n1_ := Aside0.mk (hbox); have n2_ := Aside0.mk ((by rw [hg]; exact (below_size (by repeat (first | (with_reducible first | exact HB.out | apply below_alloc | apply pw_below_drewN | apply below_drew1) | exact HB.out))) : w.heap.size ≤ gb1482)); have n3_ := Aside0.mk ((by rw [hg]; exact (below_size (by repeat (first | (with_reducible first | exact HB.out | apply below_alloc | apply pw_below_drewN | apply below_drew1) | exact HB.out))) : w.heap.size ≤ gb1482)); clear HB; have HB := n0_; have BK1482 := n1_; have GW1482 := n2_; have GE1482 := n3_; clear n0_ n1_ n2_ n3_; clear hb hbox hg))
   have n0_ := Aside0.mk (blk_drew BK1482.out)
   have n1_ := Aside0.mk (below_drew1 HB.out)
   clear BK1482
   clear HB
   have BK1482 := n0_
   have HB := n1_
   clear n0_ n1_
   refine BelowW.region (by kernel_rfl) (by kernel_rfl) ?_
   have hq0_ : w8.drew.cell? ⟨gb1482, 0, none⟩ = some (.int .i64 a1_0) := (blk_cell BK1482.out 0).trans rfl
   have hq1_ : w8.drew.cell? ⟨gb1482, 1, none⟩ = some (.int .i64 a1_1) := (blk_cell BK1482.out 1).trans rfl
   have hq2_ : w8.drew.cell? ⟨gb1482, 2, none⟩ = some (.int .i64 a1_2) := (blk_cell BK1482.out 2).trans rfl
   generalize w8.drew = w9 at BK1482 HB hq0_ hq1_ hq2_ ⊢
   replace hq0_ := BelowW.at hq0_
   replace hq1_ := BelowW.at hq1_
   replace hq2_ := BelowW.at hq2_
   change wpQuiet _ _ _ _ (List.cons _ _) _
   repeat (go_big_quiet_step (first | (go_at_call 79; (with_reducible refine (impl_IsKey.calls a0 true _ A3.out).mono ?_); exact fun _ _ h_ => ⟨h_.1, BelowW.drawn _ h_.2⟩) | (go_at_call 129; (with_reducible refine (impl_IsNote.calls a1_0 a1_1 a1_2 true _ A5.out).mono ?_); exact fun _ _ h_ => ⟨h_.1, BelowW.step _ h_.2⟩) | (go_at_call 73; (with_reducible refine (impl_AlterIn.calls k a0 a1_0 t1485 _ A7.out).mono ?_); exact fun _ _ h_ => ⟨h_.1, BelowW.step _ h_.2⟩)))
   refine wpQuiet_nil ?_
   intro w11 hb
   try simp only [i64_w, i32_w]
   clear hq0_ hq1_ hq2_
   have n0_ := Aside0.mk (blk_below (g := gb1482) (o := .cells #[.int .i64 a1_0, .int .i64 a1_1, .int .i64 a1_2] 64 (0, 0)) (by (with_reducible repeat (first | refine blk_drewN ?_ _ | refine blk_drew ?_ | refine blk_alloc ?_ _)); exact BK1482.out) hb)
   have n1_ := Aside0.mk (below_step (by repeat (first | (with_reducible first | exact HB.out | apply below_alloc | apply pw_below_drewN | apply below_drew1 | refine below_set ?_ GE1482.out) | exact HB.out)) hb)
   clear BK1482
   clear HB
   have BK1482 := n0_
   have HB := n1_
   clear n0_ n1_
   (try clear hb)
   (try clear hb2)
   (try clear hk)
   (try clear hi)
   try go_wp2
   go_ret
   exact ⟨by first | rfl | (simp [errW_none, errW_some] <;> rfl) | (simp [*, errW_none, errW_some] <;> rfl), by repeat (first | (with_reducible first | exact HB.out | apply below_alloc | apply pw_below_drewN | apply below_drew1 | refine below_set ?_ GE1482.out) | exact HB.out)⟩
  ·
   replace c6 := Bool.eq_false_iff.mpr c6
   subst c6
   rw [if_neg (show ¬ (false = true) by decide)] at H
   obtain rfl := Option.some.inj H
   go_enter Try.func75, Try.ntmps75
   try go_wp2_with (first | ((with_reducible refine gate_dst (N := 3) rfl ?_); refine box_event ?hg (N := 3) ?hd (cs := #[.int .i64 a1_0, .int .i64 a1_1, .int .i64 a1_2]) (t := 64) ?hr ?_; (case hd => rfl); (case hg => rfl); (case hr => first | (go_simp; done) | (go_simp; rfl)); intro gb1482 hg w12 hbox hb; have n0_ := Aside0.mk (below_step (by repeat (first | (with_reducible first | exact HB.out | apply below_alloc | apply pw_below_drewN | apply below_drew1) | exact HB.out)) hb); have n1_ := Aside0.mk (hbox); have n2_ := Aside0.mk ((by rw [hg]; exact (below_size (by repeat (first | (with_reducible first | exact HB.out | apply below_alloc | apply pw_below_drewN | apply below_drew1) | exact HB.out))) : w.heap.size ≤ gb1482)); have n3_ := Aside0.mk ((by rw [hg]; exact (below_size (by repeat (first | (with_reducible first | exact HB.out | apply below_alloc | apply pw_below_drewN | apply below_drew1) | exact HB.out))) : w.heap.size ≤ gb1482)); clear HB; have HB := n0_; have BK1482 := n1_; have GW1482 := n2_; have GE1482 := n3_; clear n0_ n1_ n2_ n3_; clear hb hbox hg))
   have n0_ := Aside0.mk (blk_drew BK1482.out)
   have n1_ := Aside0.mk (below_drew1 HB.out)
   clear BK1482
   clear HB
   have BK1482 := n0_
   have HB := n1_
   clear n0_ n1_
   refine BelowW.region (by kernel_rfl) (by kernel_rfl) ?_
   have hq0_ : w12.drew.cell? ⟨gb1482, 0, none⟩ = some (.int .i64 a1_0) := (blk_cell BK1482.out 0).trans rfl
   have hq1_ : w12.drew.cell? ⟨gb1482, 1, none⟩ = some (.int .i64 a1_1) := (blk_cell BK1482.out 1).trans rfl
   have hq2_ : w12.drew.cell? ⟨gb1482, 2, none⟩ = some (.int .i64 a1_2) := (blk_cell BK1482.out 2).trans rfl
   generalize w12.drew = w13 at BK1482 HB hq0_ hq1_ hq2_ ⊢
   replace hq0_ := BelowW.at hq0_
   replace hq1_ := BelowW.at hq1_
   replace hq2_ := BelowW.at hq2_
   change wpQuiet _ _ _ _ (List.cons _ _) _
   repeat (go_big_quiet_step (first | (go_at_call 79; (with_reducible refine (impl_IsKey.calls a0 true _ A3.out).mono ?_); exact fun _ _ h_ => ⟨h_.1, BelowW.drawn _ h_.2⟩) | (go_at_call 129; (with_reducible refine (impl_IsNote.calls a1_0 a1_1 a1_2 false _ A5.out).mono ?_); exact fun _ _ h_ => ⟨h_.1, BelowW.step _ h_.2⟩)))
   refine wpQuiet_nil ?_
   intro w14 hb
   try simp only [i64_w, i32_w]
   clear hq0_ hq1_ hq2_
   have n0_ := Aside0.mk (blk_below (g := gb1482) (o := .cells #[.int .i64 a1_0, .int .i64 a1_1, .int .i64 a1_2] 64 (0, 0)) (by (with_reducible repeat (first | refine blk_drewN ?_ _ | refine blk_drew ?_ | refine blk_alloc ?_ _)); exact BK1482.out) hb)
   have n1_ := Aside0.mk (below_step (by repeat (first | (with_reducible first | exact HB.out | apply below_alloc | apply pw_below_drewN | apply below_drew1 | refine below_set ?_ GE1482.out) | exact HB.out)) hb)
   clear BK1482
   clear HB
   have BK1482 := n0_
   have HB := n1_
   clear n0_ n1_
   (try clear hb)
   (try clear hb2)
   (try clear hk)
   (try clear hi)
   try go_wp2
   go_ret
   exact ⟨by first | rfl | (simp [errW_none, errW_some] <;> rfl) | (simp [*, errW_none, errW_some] <;> rfl), by repeat (first | (with_reducible first | exact HB.out | apply below_alloc | apply pw_below_drewN | apply below_drew1 | refine below_set ?_ GE1482.out) | exact HB.out)⟩
 ·
  replace c4 := Bool.eq_false_iff.mpr c4
  subst c4
  rw [if_neg (show ¬ (false = true) by decide)] at H
  obtain rfl := Option.some.inj H
  go_enter Try.func75, Try.ntmps75
  try go_wp2_with (first | ((with_reducible refine gate_dst (N := 3) rfl ?_); refine box_event ?hg (N := 3) ?hd (cs := #[.int .i64 a1_0, .int .i64 a1_1, .int .i64 a1_2]) (t := 64) ?hr ?_; (case hd => rfl); (case hg => rfl); (case hr => first | (go_simp; done) | (go_simp; rfl)); intro gb1482 hg w15 hbox hb; have n0_ := Aside0.mk (below_step (by repeat (first | (with_reducible first | exact HB.out | apply below_alloc | apply pw_below_drewN | apply below_drew1) | exact HB.out)) hb); have n1_ := Aside0.mk (hbox); have n2_ := Aside0.mk ((by rw [hg]; exact (below_size (by repeat (first | (with_reducible first | exact HB.out | apply below_alloc | apply pw_below_drewN | apply below_drew1) | exact HB.out))) : w.heap.size ≤ gb1482)); have n3_ := Aside0.mk ((by rw [hg]; exact (below_size (by repeat (first | (with_reducible first | exact HB.out | apply below_alloc | apply pw_below_drewN | apply below_drew1) | exact HB.out))) : w.heap.size ≤ gb1482)); clear HB; have HB := n0_; have BK1482 := n1_; have GW1482 := n2_; have GE1482 := n3_; clear n0_ n1_ n2_ n3_; clear hb hbox hg))
  have n0_ := Aside0.mk (blk_drew BK1482.out)
  have n1_ := Aside0.mk (below_drew1 HB.out)
  clear BK1482
  clear HB
  have BK1482 := n0_
  have HB := n1_
  clear n0_ n1_
  have hq0_ : True := trivial
  go_quiet ((first | (go_at_call 79; apply Calls.quiet_of; ((with_reducible refine (impl_IsKey.calls a0 false _ A3.out).mono ?_); exact fun _ _ h_ => ⟨h_.1, h_.2.out⟩))))
  have nBK1482_ := Aside0.mk (blk_drewN (w := w15) BK1482.out nq)
  have nHB_ := Aside0.mk (pw_below_drewN (W := w15) ⟨HB.out.os, HB.out.tape, HB.out.output, HB.out.size, HB.out.block⟩ nq)
  clear BK1482 HB hq0_
  have BK1482 := nBK1482_
  have HB := nHB_
  clear nBK1482_ nHB_
  generalize w15.drewN nq = w16 at BK1482 HB ⊢
  try go_wp2
  go_ret
  exact ⟨by first | rfl | (simp [errW_none, errW_some] <;> rfl) | (simp [*, errW_none, errW_some] <;> rfl), by repeat (first | (with_reducible first | exact HB.out | apply below_alloc | apply pw_below_drewN | apply below_drew1 | refine below_set ?_ GE1482.out) | exact HB.out)⟩
end Go.Proofs.Ytiophiipmgpaeaa.F

namespace Go.Proofs.Ytiophiipmgpaeaa.F
open Go.RowKit Go.Proofs.YtiophiipmgpaeaaW.PrintWords Go.Proofs.YtiophiipmgpaeaaW.PrintLast Go.Proofs.YtiophiipmgpaeaaW.PrintMore
attribute [local go_sem] max2_int min2_int max_two min_two max_three min_three max_four min_four
set_option linter.unusedVariables false
set_option linter.unusedSimpArgs false
def shI (s : Int) : Int := if s = 0 then 1 else if s = 1 then 3 else if s = 2 then 5 else if s = 3 then 0 else if s = 4 then 2 else if s = 5 then 4 else 6
def alterI (k s : Int) : Int := if ((-7 ≤ k ∧ k ≤ 7) ∧ (0 ≤ s ∧ s ≤ 6)) then (if shI s < k then 1 else if 6 - shI s < -k then -1 else 0) else 0
theorem shI_b (s : Int) : 0 ≤ shI s ∧ shI s ≤ 6 := by
 unfold shI
 repeat' split
 all_goals omega
theorem isKey_ok (k : Int) : impl_IsKey.f k = some (decide (-7 ≤ k ∧ k ≤ 7)) := by
 unfold impl_IsKey.f
 rw [InR_ok]
 rfl
theorem index_ok (s : Int) (hs : 0 ≤ s ∧ s ≤ 6) (k : Nat) : slices_Index_int_int.f (k + 8) [3, 0, 4, 1, 5, 2, 6] s = some (shI s) := by
 have c1 : s = 0 ∨ s = 1 ∨ s = 2 ∨ s = 3 ∨ s = 4 ∨ s = 5 ∨ s = 6 := by omega
 rcases c1 with rfl | rfl | rfl | rfl | rfl | rfl | rfl <;> simp +decide [slices_Index_int_int.f, slices_Index_int_int.l0, rd, wrap64, shI]
theorem alter_ok (k s : Int) (n : Nat) : impl_AlterIn.f (n + 9) k s = some (alterI k s) := by
 unfold impl_AlterIn.f alterI
 rw [isKey_ok, InR_ok]
 simp only [Option.bind_some, impl_AlterIn.j0]
 by_cases h1 : -7 ≤ k ∧ k ≤ 7
 ·
  by_cases h2 : 0 ≤ s ∧ s ≤ 6
  ·
   have hb := shI_b s
   rw [if_pos (decide_eq_true h1), decide_eq_true h2, if_neg (by decide), index_ok s h2 n, Option.bind_some, wq (x := 6 - shI s) (by omega) (by omega), wq (x := -k) (by omega) (by omega), if_pos (c := (-7 ≤ k ∧ k ≤ 7) ∧ (0 ≤ s ∧ s ≤ 6)) ⟨h1, h2⟩]
   repeat' split
   all_goals rfl
  ·
   rw [if_pos (decide_eq_true h1), decide_eq_false h2, if_pos (c := (!false) = true) rfl, if_neg (fun h => h2 h.2)]
 ·
  rw [if_neg (by rw [decide_eq_false h1]; simp), if_pos trivial, if_neg (fun h => h1 h.1)]
def inKeyI (k s a o : Int) : Bool := decide (-7 ≤ k ∧ k ≤ 7) && (isNoteI s a o && (a == alterI k s))
theorem inKey_ok (k s a o : Int) (n : Nat) : impl_IsInKey.f (n + 9) k s a o = some (inKeyI k s a o) := by
 unfold impl_IsInKey.f inKeyI
 rw [isKey_ok, isNote_ok, alter_ok]
 simp only [Option.bind_some]
 by_cases h1 : -7 ≤ k ∧ k ≤ 7
 ·
  rw [if_pos (decide_eq_true h1), decide_eq_true h1]
  cases isNoteI s a o <;> rfl
 ·
  rw [if_neg (by rw [decide_eq_false h1]; simp), decide_eq_false h1]
  rfl
def qkI (p k s a o : Int) : Bool := pitI s a o == p && inKeyI k s a o
set_option maxHeartbeats 8000000 in
set_option maxRecDepth 100000 in
theorem sk_pred (p k : Int) (gp ga : Nat) (s a o : Int) (w : World) (hs : 0 ≤ s ∧ s ≤ 6) (ha : -100 ≤ a ∧ a ≤ 100) (ho : -1000 ≤ o ∧ o ≤ 1000) (hp : w.cell? ⟨gp, 0, none⟩ = some (.int .i64 p)) (hl : w.cell? ⟨ga, 0, none⟩ = some (.int .i64 k)) :
  Calls Try.prog 104 #[.agg #[.int .i64 s, .int .i64 a, .int .i64 o], .pointer (some ⟨gp, 0, none⟩), .pointer (some ⟨ga, 0, none⟩)] w fun e w' => e = .returned (.bool (qkI p k s a o)) ∧ Below w.heap.size w w' := by
 have hu64 := Try.underlying64
 have HP := Aside0.mk (pitch_ok hs ha ho)
 have HK := Aside0.mk (inKey_ok k s a o 0)
 have HB := Aside0.mk (Below.refl w.heap.size w)
 have HC := Aside0.mk hp
 have HL := Aside0.mk hl
 clear hs ha ho hp hl
 unfold qkI
 generalize pitI s a o = y at HP ⊢
 generalize inKeyI k s a o = c2 at HK ⊢
 obtain ⟨c1, hc1⟩ : ∃ c1, c1 = (y == p) := ⟨_, rfl⟩
 cases c1 <;> cases c2
 all_goals
  replace hc1 := hc1.symm
  go_enter Try.func104, Try.ntmps104
  go_upto_region 1 with (first | ((with_reducible refine gate_dst (N := 3) rfl ?_); refine box_event ?hg (N := 3) ?hd (cs := #[.int .i64 s, .int .i64 a, .int .i64 o]) (t := 64) ?hr ?_; (case hd => rfl); (case hg => rfl); (case hr => first | (go_simp; done) | (go_simp; rfl)); intro gb hg w3 hbox hb; have n0_ := Aside0.mk (below_step HB.out hb); have BK := Aside0.mk hbox; clear HB; have HB := n0_; clear n0_ hb hbox hg))
  refine BelowW.region (by kernel_rfl) (by kernel_rfl) ?_
  have hq0_ : w3.drew.cell? ⟨gb, 0, none⟩ = some (.int .i64 s) := (blk_cell BK.out 0).trans rfl
  have hq1_ : w3.drew.cell? ⟨gb, 1, none⟩ = some (.int .i64 a) := (blk_cell BK.out 1).trans rfl
  have hq2_ : w3.drew.cell? ⟨gb, 2, none⟩ = some (.int .i64 o) := (blk_cell BK.out 2).trans rfl
  have hq3_ : w3.drew.cell? ⟨gp, 0, none⟩ = some (.int .i64 p) := (HB.out.cell (World.block_lt_of_cell? w _ HC.out)).trans HC.out
  have hq4_ : w3.drew.cell? ⟨ga, 0, none⟩ = some (.int .i64 k) := (HB.out.cell (World.block_lt_of_cell? w _ HL.out)).trans HL.out
  have n0_ := Aside0.mk (below_drew1 HB.out)
  clear HB BK
  generalize w3.drew = w4 at hq0_ hq1_ hq2_ hq3_ hq4_ n0_ ⊢
  replace hq0_ := BelowW.at hq0_
  replace hq1_ := BelowW.at hq1_
  replace hq2_ := BelowW.at hq2_
  replace hq3_ := BelowW.at hq3_
  replace hq4_ := BelowW.at hq4_
  change wpQuiet _ _ _ _ (List.cons _ _) _
  repeat (go_big_quiet_step (first | (go_at_call 105; (with_reducible refine (impl_Note_pitch.calls s a o y _ HP.out).mono ?_); exact fun _ _ h_ => ⟨h_.1, BelowW.step _ h_.2⟩) | (go_at_call 75; (with_reducible refine (impl_IsInKey.calls _ k s a o _ _ HK.out).mono ?_); exact fun _ _ h_ => ⟨h_.1, BelowW.step _ h_.2⟩)))
  refine wpQuiet_nil ?_
  intro w5 hb
  have HB := Aside0.mk (below_step n0_.out hb)
  clear n0_ hb hq0_ hq1_ hq2_ hq3_ hq4_
  go_wp2
  go_ret
  exact ⟨by rw [hc1]; rfl, HB.out⟩
def spellI (k p : Int) : NoteR := if (octI (qkI p k) 9 0).2.2.2 = true then octI (qkI p k) 9 0 else ssI p 2 0
def impl_SpellIn.f (a0 : Int) (a1 : Int) : Option (Int × Int × Int × Bool) := if -7 ≤ a0 ∧ a0 ≤ 7 then (if 12 ≤ a1 ∧ a1 ≤ 119 then some (spellI a0 a1) else some (0, 0, 0, false)) else some (0, 0, 0, false)
set_option maxHeartbeats 8000000 in
set_option maxRecDepth 100000 in
theorem impl_SpellIn.calls (a0 : Int) (a1 : Int) (r1 : Int) (r2 : Int) (r3 : Int) (r4 : Bool) (w : World) (h : impl_SpellIn.f a0 a1 = some (r1, r2, r3, r4)) :
  Calls Try.prog 52 #[.int .i64 a0, .int .i64 a1] w fun e w' => e = .returned (.tuple #[.agg #[.int .i64 r1, .int .i64 r2, .int .i64 r3], .bool r4]) ∧ Below w.heap.size w w' := by
 have hu64 := Try.underlying64
 have eg : ∀ args w, (callFunc 104 args).run Try.prog w = .ok (.enter 104 args) w := enters_of Try.func104 (by kernel_rfl) rfl
 have EG := Aside0.mk eg
 clear eg
 have HB := Aside0.mk (Below.refl w.heap.size w)
 have HI := Aside0.mk (InR_ok a1 12 119)
 have HK := Aside0.mk (isKey_ok a0)
 unfold impl_SpellIn.f at h
 by_cases c : -7 ≤ a0 ∧ a0 ≤ 7
 ·
  rw [if_pos c] at h
  rw [decide_eq_true c] at HK
  by_cases c2 : 12 ≤ a1 ∧ a1 ≤ 119
  ·
   rw [if_pos c2] at h
   rw [decide_eq_true c2] at HI
   have hss : impl_SpellSharp.f a1 = some (ssI a1 2 0) := if_pos c2
   rcases hY : ssI a1 2 0 with ⟨y1, y2, y3, y4⟩
   rw [hY] at hss
   have HS := Aside0.mk hss
   rcases hX : octI (qkI a1 a0) 9 0 with ⟨x1, x2, x3, x4⟩
   have HX := Aside0.mk hX
   have h2 := Option.some.inj h
   simp only [spellI, hX, hY] at h2
   have HR := Aside0.mk h2
   clear h h2 c c2 hX hY hss
   cases x4
   ·
    have hR := HR.out
    simp only [Bool.false_eq_true, if_false, Prod.mk.injEq] at hR
    obtain ⟨rfl, rfl, rfl, rfl⟩ := hR
    go_enter Try.func52, Try.ntmps52
    go_wp2_with (first
     | ((with_reducible refine gate_dst (N := 2) rfl ?_); refine box_event ?hg (N := 2) ?hd (cs := #[.int .i64 a0]) (t := 3) ?hr ?_; (case hd => rfl); (case hg => rfl); (case hr => first | (go_simp; done) | (go_simp; rfl)); intro gk hg w3 hbox hb; have GTBK0 := Aside0.mk (by rw [hg]; exact below_size HB.out : w.heap.size ≤ gk); have n0_ := Aside0.mk (below_step HB.out hb); clear HB ; have HB := n0_; clear n0_; have BK0 := Aside0.mk hbox; clear hbox hb hg)
     | ((with_reducible refine gate_dst (N := 3) rfl ?_); refine box_event ?hg (N := 3) ?hd (cs := #[.int .i64 a1]) (t := 3) ?hr ?_; (case hd => rfl); (case hg => rfl); (case hr => first | (go_simp; done) | (go_simp; rfl)); intro gp hg w4 hbox hb; have GTBP := Aside0.mk (by rw [hg]; exact below_size HB.out : w.heap.size ≤ gp); have NBK0BP := Aside0.mk (by rw [hg]; exact Nat.ne_of_lt (blk_lt BK0.out) : gk ≠ gp); have n0_ := Aside0.mk (below_step HB.out hb); have n1_ := Aside0.mk (blk_below BK0.out hb); clear HB BK0; have HB := n0_; have BK0 := n1_; clear n0_ n1_; have BP := Aside0.mk hbox; clear hbox hb hg)
     | ((with_reducible refine gate_dst (N := 4) rfl ?_); refine box_event ?hg (N := 4) ?hd (cs := #[.int .i64 0, .int .i64 0, .int .i64 0]) (t := 64) ?hr ?_; (case hd => rfl); (case hg => rfl); (case hr => first | (go_simp; done) | (go_simp; rfl)); intro gb hg w5 hbox hb; have GTBK := Aside0.mk (by rw [hg]; exact below_size HB.out : w.heap.size ≤ gb); have NBPBK := Aside0.mk (by rw [hg]; exact Nat.ne_of_lt (blk_lt BP.out) : gp ≠ gb); have NBK0BK := Aside0.mk (by rw [hg]; exact Nat.ne_of_lt (blk_lt BK0.out) : gk ≠ gb); have n0_ := Aside0.mk (below_step HB.out hb); have n1_ := Aside0.mk (blk_below BK0.out hb); have n2_ := Aside0.mk (blk_below BP.out hb); clear HB BK0 BP; have HB := n0_; have BK0 := n1_; have BP := n2_; clear n0_ n1_ n2_; have BK := Aside0.mk hbox; clear hbox hb hg; have hcp : w5.cell? ⟨gp, 0, none⟩ = some (.int .i64 a1) := (blk_cell BP.out 0).trans rfl; have hck : w5.cell? ⟨gk, 0, none⟩ = some (.int .i64 a0) := (blk_cell BK0.out 0).trans rfl)
     | (go_at_call 79; (with_reducible refine (impl_IsKey.calls a0 true _ HK.out).mono ?_); rintro e w' ⟨rfl, ⟨nd, rfl⟩⟩; have hb := pw_below_drewN (Below.refl w5.heap.size w5) nd; have n0_ := Aside0.mk (below_step HB.out hb); have n1_ := Aside0.mk (blk_below BK0.out hb); have n2_ := Aside0.mk (blk_below BP.out hb); have n3_ := Aside0.mk (blk_below BK.out hb); clear HB BK0 BP BK; have HB := n0_; have BK0 := n1_; have BP := n2_; have BK := n3_; clear n0_ n1_ n2_ n3_; generalize w5.drewN nd = w6 at *; clear hb hcp hck; have hcp : w6.cell? ⟨gp, 0, none⟩ = some (.int .i64 a1) := (blk_cell BP.out 0).trans rfl; have hck : w6.cell? ⟨gk, 0, none⟩ = some (.int .i64 a0) := (blk_cell BK0.out 0).trans rfl)
     | (go_at_call 82; (with_reducible refine (impl_InRange.calls a1 12 119 true _ HI.out).mono ?_); rintro e w' ⟨rfl, ⟨nd, rfl⟩⟩; have hb := pw_below_drewN (Below.refl w6.heap.size w6) nd; have n0_ := Aside0.mk (below_step HB.out hb); have n1_ := Aside0.mk (blk_below BK0.out hb); have n2_ := Aside0.mk (blk_below BP.out hb); have n3_ := Aside0.mk (blk_below BK.out hb); clear HB BK0 BP BK; have HB := n0_; have BK0 := n1_; have BP := n2_; have BK := n3_; clear n0_ n1_ n2_ n3_; generalize w6.drewN nd = w7 at *; clear hb hcp hck; have hcp : w7.cell? ⟨gp, 0, none⟩ = some (.int .i64 a1) := (blk_cell BP.out 0).trans rfl; have hck : w7.cell? ⟨gk, 0, none⟩ = some (.int .i64 a0) := (blk_cell BK0.out 0).trans rfl)
     | (go_at_call 103; refine (notes_calls 104 (.pointer (some ⟨gp, 0, none⟩)) (.pointer (some ⟨gk, 0, none⟩)) (qkI a1 a0) x1 x2 x3 false w7 EG.out ⟨fun s a o W hi hb => sk_pred a1 a0 gp gk s a o W (isNoteI_b hi).1 (isNoteI_b hi).2.1 (isNoteI_b hi).2.2 ((blk_cell (blk_below BP.out hb) 0).trans rfl) ((blk_cell (blk_below BK0.out hb) 0).trans rfl)⟩ HX.out).mono ?_; rintro e w8 ⟨rfl, hb⟩; have n0_ := Aside0.mk (below_step HB.out hb); have n1_ := Aside0.mk (blk_below BK0.out hb); have n2_ := Aside0.mk (blk_below BP.out hb); have n3_ := Aside0.mk (blk_below BK.out hb); clear HB BK0 BP BK; have HB := n0_; have BK0 := n1_; have BP := n2_; have BK := n3_; clear n0_ n1_ n2_ n3_; clear hb hcp hck; have hcp : w8.cell? ⟨gp, 0, none⟩ = some (.int .i64 a1) := (blk_cell BP.out 0).trans rfl)
     | ((with_reducible refine gate_dst (N := 6) rfl ?_); refine box_event ?hg (N := 6) ?hd (cs := #[.int .i64 0, .int .i64 0, .int .i64 0]) (t := 64) ?hr ?_; (case hd => rfl); (case hg => rfl); (case hr => first | (go_simp; done) | (go_simp; rfl)); intro gx hg w9 hbox hb; have GTBX := Aside0.mk (by rw [hg]; exact below_size HB.out : w.heap.size ≤ gx); have NBK0BX := Aside0.mk (by rw [hg]; exact Nat.ne_of_lt (blk_lt BK0.out) : gk ≠ gx); have NBPBX := Aside0.mk (by rw [hg]; exact Nat.ne_of_lt (blk_lt BP.out) : gp ≠ gx); have NBKBX := Aside0.mk (by rw [hg]; exact Nat.ne_of_lt (blk_lt BK.out) : gb ≠ gx); have n0_ := Aside0.mk (below_step HB.out hb); have n1_ := Aside0.mk (blk_below BK0.out hb); have n2_ := Aside0.mk (blk_below BP.out hb); have n3_ := Aside0.mk (blk_below BK.out hb); clear HB BK0 BP BK; have HB := n0_; have BK0 := n1_; have BP := n2_; have BK := n3_; clear n0_ n1_ n2_ n3_; have BX := Aside0.mk hbox; clear hbox hb hg; have hcBX0 : w9.cell? ⟨gx, 0, none⟩ = some (.int .i64 0) := (blk_cell BX.out 0).trans rfl; have hcBX1 : w9.cell? ⟨gx, 1, none⟩ = some (.int .i64 0) := (blk_cell BX.out 1).trans rfl; have hcBX2 : w9.cell? ⟨gx, 2, none⟩ = some (.int .i64 0) := (blk_cell BX.out 2).trans rfl; have hfBX0 := blk_frozen BX.out 0; have hfBX1 := blk_frozen BX.out 1; have hfBX2 := blk_frozen BX.out 2)
     | ((with_reducible refine gate_store (t := 64) (p := 6) rfl ?_); refine store_event (t := 64) (p := 6) (v := ?vo) (w1 := set3 w9 gx (.int .i64 x1) (.int .i64 x2) (.int .i64 x3)) ?hg ?ho ?hn ?hr ?_; (case ho => rfl); (case hg => rfl); (case hn => rfl); (case hr => unfold set3; first | (go_simp; done) | (go_simp; rfl)); intro w10 hw; have n0_ : Aside0 (Below w.heap.size w w10) := ⟨by rw [hw]; exact set3_below HB.out GTBX.out⟩; have m0_ := Aside0.mk (set3_blk (x := .int .i64 x1) (y := .int .i64 x2) (z := .int .i64 x3) BX.out); have m1_ := Aside0.mk (set3_far (x := .int .i64 x1) (y := .int .i64 x2) (z := .int .i64 x3) BK0.out NBK0BX.out); have m2_ := Aside0.mk (set3_far (x := .int .i64 x1) (y := .int .i64 x2) (z := .int .i64 x3) BP.out NBPBX.out); have m3_ := Aside0.mk (set3_far (x := .int .i64 x1) (y := .int .i64 x2) (z := .int .i64 x3) BK.out NBKBX.out); rw [← hw] at m0_ m1_ m2_ m3_; clear hcBX0 hcBX1 hcBX2 hfBX0 hfBX1 hfBX2; clear hw HB BX BK0 BP BK; have HB := n0_; have BX := m0_; have BK0 := m1_; have BP := m2_; have BK := m3_; clear n0_ m0_ m1_ m2_ m3_; have hcp : w10.cell? ⟨gp, 0, none⟩ = some (.int .i64 a1) := (blk_cell BP.out 0).trans rfl)
     | (go_at_call 106; (with_reducible refine (impl_SpellSharp.calls a1 y1 y2 y3 y4 _ HS.out).mono ?_); rintro e w11 ⟨rfl, hb⟩; have n0_ := Aside0.mk (below_step HB.out hb); have n1_ := Aside0.mk (blk_below BK0.out hb); have n2_ := Aside0.mk (blk_below BP.out hb); have n3_ := Aside0.mk (blk_below BK.out hb); clear HB BK0 BP BK; have HB := n0_; have BK0 := n1_; have BP := n2_; have BK := n3_; clear n0_ n1_ n2_ n3_; clear hb; have hcBK0 : w11.cell? ⟨gb, 0, none⟩ = some (.int .i64 0) := (blk_cell BK.out 0).trans rfl; have hcBK1 : w11.cell? ⟨gb, 1, none⟩ = some (.int .i64 0) := (blk_cell BK.out 1).trans rfl; have hcBK2 : w11.cell? ⟨gb, 2, none⟩ = some (.int .i64 0) := (blk_cell BK.out 2).trans rfl; have hfBK0 := blk_frozen BK.out 0; have hfBK1 := blk_frozen BK.out 1; have hfBK2 := blk_frozen BK.out 2))
    refine bodyPost_ret (results_ct rfl _ _ gb 64 #[.int .i64 y1, .int .i64 y2, .int .i64 y3] (0, 0) _ rfl (set3_blk BK.out) hu64 rfl (by kernel_rfl)) rfl ?_
    exact ⟨rfl, set3_below HB.out GTBK.out⟩
   ·
    have hR := HR.out
    simp only [if_true, Prod.mk.injEq] at hR
    obtain ⟨rfl, rfl, rfl, rfl⟩ := hR
    go_enter Try.func52, Try.ntmps52
    go_wp2_with (first
     | ((with_reducible refine gate_dst (N := 2) rfl ?_); refine box_event ?hg (N := 2) ?hd (cs := #[.int .i64 a0]) (t := 3) ?hr ?_; (case hd => rfl); (case hg => rfl); (case hr => first | (go_simp; done) | (go_simp; rfl)); intro gk hg w3 hbox hb; have GTBK0 := Aside0.mk (by rw [hg]; exact below_size HB.out : w.heap.size ≤ gk); have n0_ := Aside0.mk (below_step HB.out hb); clear HB ; have HB := n0_; clear n0_; have BK0 := Aside0.mk hbox; clear hbox hb hg)
     | ((with_reducible refine gate_dst (N := 3) rfl ?_); refine box_event ?hg (N := 3) ?hd (cs := #[.int .i64 a1]) (t := 3) ?hr ?_; (case hd => rfl); (case hg => rfl); (case hr => first | (go_simp; done) | (go_simp; rfl)); intro gp hg w4 hbox hb; have GTBP := Aside0.mk (by rw [hg]; exact below_size HB.out : w.heap.size ≤ gp); have NBK0BP := Aside0.mk (by rw [hg]; exact Nat.ne_of_lt (blk_lt BK0.out) : gk ≠ gp); have n0_ := Aside0.mk (below_step HB.out hb); have n1_ := Aside0.mk (blk_below BK0.out hb); clear HB BK0; have HB := n0_; have BK0 := n1_; clear n0_ n1_; have BP := Aside0.mk hbox; clear hbox hb hg)
     | ((with_reducible refine gate_dst (N := 4) rfl ?_); refine box_event ?hg (N := 4) ?hd (cs := #[.int .i64 0, .int .i64 0, .int .i64 0]) (t := 64) ?hr ?_; (case hd => rfl); (case hg => rfl); (case hr => first | (go_simp; done) | (go_simp; rfl)); intro gb hg w5 hbox hb; have GTBK := Aside0.mk (by rw [hg]; exact below_size HB.out : w.heap.size ≤ gb); have NBPBK := Aside0.mk (by rw [hg]; exact Nat.ne_of_lt (blk_lt BP.out) : gp ≠ gb); have NBK0BK := Aside0.mk (by rw [hg]; exact Nat.ne_of_lt (blk_lt BK0.out) : gk ≠ gb); have n0_ := Aside0.mk (below_step HB.out hb); have n1_ := Aside0.mk (blk_below BK0.out hb); have n2_ := Aside0.mk (blk_below BP.out hb); clear HB BK0 BP; have HB := n0_; have BK0 := n1_; have BP := n2_; clear n0_ n1_ n2_; have BK := Aside0.mk hbox; clear hbox hb hg; have hcp : w5.cell? ⟨gp, 0, none⟩ = some (.int .i64 a1) := (blk_cell BP.out 0).trans rfl; have hck : w5.cell? ⟨gk, 0, none⟩ = some (.int .i64 a0) := (blk_cell BK0.out 0).trans rfl)
     | (go_at_call 79; (with_reducible refine (impl_IsKey.calls a0 true _ HK.out).mono ?_); rintro e w' ⟨rfl, ⟨nd, rfl⟩⟩; have hb := pw_below_drewN (Below.refl w5.heap.size w5) nd; have n0_ := Aside0.mk (below_step HB.out hb); have n1_ := Aside0.mk (blk_below BK0.out hb); have n2_ := Aside0.mk (blk_below BP.out hb); have n3_ := Aside0.mk (blk_below BK.out hb); clear HB BK0 BP BK; have HB := n0_; have BK0 := n1_; have BP := n2_; have BK := n3_; clear n0_ n1_ n2_ n3_; generalize w5.drewN nd = w6 at *; clear hb hcp hck; have hcp : w6.cell? ⟨gp, 0, none⟩ = some (.int .i64 a1) := (blk_cell BP.out 0).trans rfl; have hck : w6.cell? ⟨gk, 0, none⟩ = some (.int .i64 a0) := (blk_cell BK0.out 0).trans rfl)
     | (go_at_call 82; (with_reducible refine (impl_InRange.calls a1 12 119 true _ HI.out).mono ?_); rintro e w' ⟨rfl, ⟨nd, rfl⟩⟩; have hb := pw_below_drewN (Below.refl w6.heap.size w6) nd; have n0_ := Aside0.mk (below_step HB.out hb); have n1_ := Aside0.mk (blk_below BK0.out hb); have n2_ := Aside0.mk (blk_below BP.out hb); have n3_ := Aside0.mk (blk_below BK.out hb); clear HB BK0 BP BK; have HB := n0_; have BK0 := n1_; have BP := n2_; have BK := n3_; clear n0_ n1_ n2_ n3_; generalize w6.drewN nd = w7 at *; clear hb hcp hck; have hcp : w7.cell? ⟨gp, 0, none⟩ = some (.int .i64 a1) := (blk_cell BP.out 0).trans rfl; have hck : w7.cell? ⟨gk, 0, none⟩ = some (.int .i64 a0) := (blk_cell BK0.out 0).trans rfl)
     | (go_at_call 103; refine (notes_calls 104 (.pointer (some ⟨gp, 0, none⟩)) (.pointer (some ⟨gk, 0, none⟩)) (qkI a1 a0) x1 x2 x3 true w7 EG.out ⟨fun s a o W hi hb => sk_pred a1 a0 gp gk s a o W (isNoteI_b hi).1 (isNoteI_b hi).2.1 (isNoteI_b hi).2.2 ((blk_cell (blk_below BP.out hb) 0).trans rfl) ((blk_cell (blk_below BK0.out hb) 0).trans rfl)⟩ HX.out).mono ?_; rintro e w8 ⟨rfl, hb⟩; have n0_ := Aside0.mk (below_step HB.out hb); have n1_ := Aside0.mk (blk_below BK0.out hb); have n2_ := Aside0.mk (blk_below BP.out hb); have n3_ := Aside0.mk (blk_below BK.out hb); clear HB BK0 BP BK; have HB := n0_; have BK0 := n1_; have BP := n2_; have BK := n3_; clear n0_ n1_ n2_ n3_; clear hb hcp hck; have hcp : w8.cell? ⟨gp, 0, none⟩ = some (.int .i64 a1) := (blk_cell BP.out 0).trans rfl)
     | ((with_reducible refine gate_dst (N := 6) rfl ?_); refine box_event ?hg (N := 6) ?hd (cs := #[.int .i64 0, .int .i64 0, .int .i64 0]) (t := 64) ?hr ?_; (case hd => rfl); (case hg => rfl); (case hr => first | (go_simp; done) | (go_simp; rfl)); intro gx hg w9 hbox hb; have GTBX := Aside0.mk (by rw [hg]; exact below_size HB.out : w.heap.size ≤ gx); have NBK0BX := Aside0.mk (by rw [hg]; exact Nat.ne_of_lt (blk_lt BK0.out) : gk ≠ gx); have NBPBX := Aside0.mk (by rw [hg]; exact Nat.ne_of_lt (blk_lt BP.out) : gp ≠ gx); have NBKBX := Aside0.mk (by rw [hg]; exact Nat.ne_of_lt (blk_lt BK.out) : gb ≠ gx); have n0_ := Aside0.mk (below_step HB.out hb); have n1_ := Aside0.mk (blk_below BK0.out hb); have n2_ := Aside0.mk (blk_below BP.out hb); have n3_ := Aside0.mk (blk_below BK.out hb); clear HB BK0 BP BK; have HB := n0_; have BK0 := n1_; have BP := n2_; have BK := n3_; clear n0_ n1_ n2_ n3_; have BX := Aside0.mk hbox; clear hbox hb hg; have hcBX0 : w9.cell? ⟨gx, 0, none⟩ = some (.int .i64 0) := (blk_cell BX.out 0).trans rfl; have hcBX1 : w9.cell? ⟨gx, 1, none⟩ = some (.int .i64 0) := (blk_cell BX.out 1).trans rfl; have hcBX2 : w9.cell? ⟨gx, 2, none⟩ = some (.int .i64 0) := (blk_cell BX.out 2).trans rfl; have hfBX0 := blk_frozen BX.out 0; have hfBX1 := blk_frozen BX.out 1; have hfBX2 := blk_frozen BX.out 2)
     | ((with_reducible refine gate_store (t := 64) (p := 6) rfl ?_); refine store_event (t := 64) (p := 6) (v := ?vo) (w1 := set3 w9 gx (.int .i64 x1) (.int .i64 x2) (.int .i64 x3)) ?hg ?ho ?hn ?hr ?_; (case ho => rfl); (case hg => rfl); (case hn => rfl); (case hr => unfold set3; first | (go_simp; done) | (go_simp; rfl)); intro w10 hw; have n0_ : Aside0 (Below w.heap.size w w10) := ⟨by rw [hw]; exact set3_below HB.out GTBX.out⟩; have m0_ := Aside0.mk (set3_blk (x := .int .i64 x1) (y := .int .i64 x2) (z := .int .i64 x3) BX.out); have m1_ := Aside0.mk (set3_far (x := .int .i64 x1) (y := .int .i64 x2) (z := .int .i64 x3) BK0.out NBK0BX.out); have m2_ := Aside0.mk (set3_far (x := .int .i64 x1) (y := .int .i64 x2) (z := .int .i64 x3) BP.out NBPBX.out); have m3_ := Aside0.mk (set3_far (x := .int .i64 x1) (y := .int .i64 x2) (z := .int .i64 x3) BK.out NBKBX.out); rw [← hw] at m0_ m1_ m2_ m3_; clear hcBX0 hcBX1 hcBX2 hfBX0 hfBX1 hfBX2; clear hw HB BX BK0 BP BK; have HB := n0_; have BX := m0_; have BK0 := m1_; have BP := m2_; have BK := m3_; clear n0_ m0_ m1_ m2_ m3_; have hnx := NBKBX.out; have hcBK0 : w10.cell? ⟨gb, 0, none⟩ = some (.int .i64 0) := (blk_cell BK.out 0).trans rfl; have hcBK1 : w10.cell? ⟨gb, 1, none⟩ = some (.int .i64 0) := (blk_cell BK.out 1).trans rfl; have hcBK2 : w10.cell? ⟨gb, 2, none⟩ = some (.int .i64 0) := (blk_cell BK.out 2).trans rfl; have hfBK0 := blk_frozen BK.out 0; have hfBK1 := blk_frozen BK.out 1; have hfBK2 := blk_frozen BK.out 2; have hcBX0 : w10.cell? ⟨gx, 0, none⟩ = some (.int .i64 x1) := (blk_cell BX.out 0).trans rfl; have hcBX1 : w10.cell? ⟨gx, 1, none⟩ = some (.int .i64 x2) := (blk_cell BX.out 1).trans rfl; have hcBX2 : w10.cell? ⟨gx, 2, none⟩ = some (.int .i64 x3) := (blk_cell BX.out 2).trans rfl))
    refine bodyPost_ret (results_ct rfl _ _ gb 64 #[.int .i64 x1, .int .i64 x2, .int .i64 x3] (0, 0) _ rfl (set3_blk BK.out) hu64 rfl (by kernel_rfl)) rfl ?_
    exact ⟨rfl, set3_below HB.out GTBK.out⟩
  ·
   rw [if_neg c2] at h
   rw [decide_eq_false c2] at HI
   have h2 := Option.some.inj h
   simp only [Prod.mk.injEq] at h2
   obtain ⟨rfl, rfl, rfl, rfl⟩ := h2
   clear h c c2
   go_enter Try.func52, Try.ntmps52
   go_wp2_with (first
    | ((with_reducible refine gate_dst (N := 2) rfl ?_); refine box_event ?hg (N := 2) ?hd (cs := #[.int .i64 a0]) (t := 3) ?hr ?_; (case hd => rfl); (case hg => rfl); (case hr => first | (go_simp; done) | (go_simp; rfl)); intro gk hg w3 hbox hb; have GTBK0 := Aside0.mk (by rw [hg]; exact below_size HB.out : w.heap.size ≤ gk); have n0_ := Aside0.mk (below_step HB.out hb); clear HB ; have HB := n0_; clear n0_; have BK0 := Aside0.mk hbox; clear hbox hb hg)
    | ((with_reducible refine gate_dst (N := 3) rfl ?_); refine box_event ?hg (N := 3) ?hd (cs := #[.int .i64 a1]) (t := 3) ?hr ?_; (case hd => rfl); (case hg => rfl); (case hr => first | (go_simp; done) | (go_simp; rfl)); intro gp hg w4 hbox hb; have GTBP := Aside0.mk (by rw [hg]; exact below_size HB.out : w.heap.size ≤ gp); have NBK0BP := Aside0.mk (by rw [hg]; exact Nat.ne_of_lt (blk_lt BK0.out) : gk ≠ gp); have n0_ := Aside0.mk (below_step HB.out hb); have n1_ := Aside0.mk (blk_below BK0.out hb); clear HB BK0; have HB := n0_; have BK0 := n1_; clear n0_ n1_; have BP := Aside0.mk hbox; clear hbox hb hg)
    | ((with_reducible refine gate_dst (N := 4) rfl ?_); refine box_event ?hg (N := 4) ?hd (cs := #[.int .i64 0, .int .i64 0, .int .i64 0]) (t := 64) ?hr ?_; (case hd => rfl); (case hg => rfl); (case hr => first | (go_simp; done) | (go_simp; rfl)); intro gb hg w5 hbox hb; have GTBK := Aside0.mk (by rw [hg]; exact below_size HB.out : w.heap.size ≤ gb); have NBPBK := Aside0.mk (by rw [hg]; exact Nat.ne_of_lt (blk_lt BP.out) : gp ≠ gb); have NBK0BK := Aside0.mk (by rw [hg]; exact Nat.ne_of_lt (blk_lt BK0.out) : gk ≠ gb); have n0_ := Aside0.mk (below_step HB.out hb); have n1_ := Aside0.mk (blk_below BK0.out hb); have n2_ := Aside0.mk (blk_below BP.out hb); clear HB BK0 BP; have HB := n0_; have BK0 := n1_; have BP := n2_; clear n0_ n1_ n2_; have BK := Aside0.mk hbox; clear hbox hb hg; have hcp : w5.cell? ⟨gp, 0, none⟩ = some (.int .i64 a1) := (blk_cell BP.out 0).trans rfl; have hck : w5.cell? ⟨gk, 0, none⟩ = some (.int .i64 a0) := (blk_cell BK0.out 0).trans rfl)
    | (go_at_call 79; (with_reducible refine (impl_IsKey.calls a0 true _ HK.out).mono ?_); rintro e w' ⟨rfl, ⟨nd, rfl⟩⟩; have hb := pw_below_drewN (Below.refl w5.heap.size w5) nd; have n0_ := Aside0.mk (below_step HB.out hb); have n1_ := Aside0.mk (blk_below BK0.out hb); have n2_ := Aside0.mk (blk_below BP.out hb); have n3_ := Aside0.mk (blk_below BK.out hb); clear HB BK0 BP BK; have HB := n0_; have BK0 := n1_; have BP := n2_; have BK := n3_; clear n0_ n1_ n2_ n3_; generalize w5.drewN nd = w6 at *; clear hb hcp hck; have hcp : w6.cell? ⟨gp, 0, none⟩ = some (.int .i64 a1) := (blk_cell BP.out 0).trans rfl; have hck : w6.cell? ⟨gk, 0, none⟩ = some (.int .i64 a0) := (blk_cell BK0.out 0).trans rfl)
    | (go_at_call 82; (with_reducible refine (impl_InRange.calls a1 12 119 false _ HI.out).mono ?_); rintro e w' ⟨rfl, ⟨nd, rfl⟩⟩; have hb := pw_below_drewN (Below.refl w6.heap.size w6) nd; have n0_ := Aside0.mk (below_step HB.out hb); have n1_ := Aside0.mk (blk_below BK0.out hb); have n2_ := Aside0.mk (blk_below BP.out hb); have n3_ := Aside0.mk (blk_below BK.out hb); clear HB BK0 BP BK; have HB := n0_; have BK0 := n1_; have BP := n2_; have BK := n3_; clear n0_ n1_ n2_ n3_; generalize w6.drewN nd = w7 at *; clear hb hcp hck; have hcp : w7.cell? ⟨gp, 0, none⟩ = some (.int .i64 a1) := (blk_cell BP.out 0).trans rfl; have hck : w7.cell? ⟨gk, 0, none⟩ = some (.int .i64 a0) := (blk_cell BK0.out 0).trans rfl; have hcBK0 : w7.cell? ⟨gb, 0, none⟩ = some (.int .i64 0) := (blk_cell BK.out 0).trans rfl; have hcBK1 : w7.cell? ⟨gb, 1, none⟩ = some (.int .i64 0) := (blk_cell BK.out 1).trans rfl; have hcBK2 : w7.cell? ⟨gb, 2, none⟩ = some (.int .i64 0) := (blk_cell BK.out 2).trans rfl; have hfBK0 := blk_frozen BK.out 0; have hfBK1 := blk_frozen BK.out 1; have hfBK2 := blk_frozen BK.out 2))
   refine bodyPost_ret (results_ct rfl _ _ gb 64 #[.int .i64 0, .int .i64 0, .int .i64 0] (0, 0) _ rfl (set3_blk BK.out) hu64 rfl (by kernel_rfl)) rfl ?_
   exact ⟨rfl, set3_below HB.out GTBK.out⟩
 ·
  rw [if_neg c] at h
  rw [decide_eq_false c] at HK
  have h2 := Option.some.inj h
  simp only [Prod.mk.injEq] at h2
  obtain ⟨rfl, rfl, rfl, rfl⟩ := h2
  clear h c
  go_enter Try.func52, Try.ntmps52
  go_wp2_with (first
   | ((with_reducible refine gate_dst (N := 2) rfl ?_); refine box_event ?hg (N := 2) ?hd (cs := #[.int .i64 a0]) (t := 3) ?hr ?_; (case hd => rfl); (case hg => rfl); (case hr => first | (go_simp; done) | (go_simp; rfl)); intro gk hg w3 hbox hb; have GTBK0 := Aside0.mk (by rw [hg]; exact below_size HB.out : w.heap.size ≤ gk); have n0_ := Aside0.mk (below_step HB.out hb); clear HB ; have HB := n0_; clear n0_; have BK0 := Aside0.mk hbox; clear hbox hb hg)
     | ((with_reducible refine gate_dst (N := 3) rfl ?_); refine box_event ?hg (N := 3) ?hd (cs := #[.int .i64 a1]) (t := 3) ?hr ?_; (case hd => rfl); (case hg => rfl); (case hr => first | (go_simp; done) | (go_simp; rfl)); intro gp hg w4 hbox hb; have GTBP := Aside0.mk (by rw [hg]; exact below_size HB.out : w.heap.size ≤ gp); have NBK0BP := Aside0.mk (by rw [hg]; exact Nat.ne_of_lt (blk_lt BK0.out) : gk ≠ gp); have n0_ := Aside0.mk (below_step HB.out hb); have n1_ := Aside0.mk (blk_below BK0.out hb); clear HB BK0; have HB := n0_; have BK0 := n1_; clear n0_ n1_; have BP := Aside0.mk hbox; clear hbox hb hg)
     | ((with_reducible refine gate_dst (N := 4) rfl ?_); refine box_event ?hg (N := 4) ?hd (cs := #[.int .i64 0, .int .i64 0, .int .i64 0]) (t := 64) ?hr ?_; (case hd => rfl); (case hg => rfl); (case hr => first | (go_simp; done) | (go_simp; rfl)); intro gb hg w5 hbox hb; have GTBK := Aside0.mk (by rw [hg]; exact below_size HB.out : w.heap.size ≤ gb); have NBPBK := Aside0.mk (by rw [hg]; exact Nat.ne_of_lt (blk_lt BP.out) : gp ≠ gb); have NBK0BK := Aside0.mk (by rw [hg]; exact Nat.ne_of_lt (blk_lt BK0.out) : gk ≠ gb); have n0_ := Aside0.mk (below_step HB.out hb); have n1_ := Aside0.mk (blk_below BK0.out hb); have n2_ := Aside0.mk (blk_below BP.out hb); clear HB BK0 BP; have HB := n0_; have BK0 := n1_; have BP := n2_; clear n0_ n1_ n2_; have BK := Aside0.mk hbox; clear hbox hb hg; have hcp : w5.cell? ⟨gp, 0, none⟩ = some (.int .i64 a1) := (blk_cell BP.out 0).trans rfl; have hck : w5.cell? ⟨gk, 0, none⟩ = some (.int .i64 a0) := (blk_cell BK0.out 0).trans rfl)
   | (go_at_call 79; (with_reducible refine (impl_IsKey.calls a0 false _ HK.out).mono ?_); rintro e w' ⟨rfl, ⟨nd, rfl⟩⟩; have hb := pw_below_drewN (Below.refl w5.heap.size w5) nd; have n0_ := Aside0.mk (below_step HB.out hb); have n1_ := Aside0.mk (blk_below BK0.out hb); have n2_ := Aside0.mk (blk_below BP.out hb); have n3_ := Aside0.mk (blk_below BK.out hb); clear HB BK0 BP BK; have HB := n0_; have BK0 := n1_; have BP := n2_; have BK := n3_; clear n0_ n1_ n2_ n3_; generalize w5.drewN nd = w6 at *; clear hb hcp hck; have hcp : w6.cell? ⟨gp, 0, none⟩ = some (.int .i64 a1) := (blk_cell BP.out 0).trans rfl; have hck : w6.cell? ⟨gk, 0, none⟩ = some (.int .i64 a0) := (blk_cell BK0.out 0).trans rfl; have hcBK0 : w6.cell? ⟨gb, 0, none⟩ = some (.int .i64 0) := (blk_cell BK.out 0).trans rfl; have hcBK1 : w6.cell? ⟨gb, 1, none⟩ = some (.int .i64 0) := (blk_cell BK.out 1).trans rfl; have hcBK2 : w6.cell? ⟨gb, 2, none⟩ = some (.int .i64 0) := (blk_cell BK.out 2).trans rfl; have hfBK0 := blk_frozen BK.out 0; have hfBK1 := blk_frozen BK.out 1; have hfBK2 := blk_frozen BK.out 2))
  refine bodyPost_ret (results_ct rfl _ _ gb 64 #[.int .i64 0, .int .i64 0, .int .i64 0] (0, 0) _ rfl (set3_blk BK.out) hu64 rfl (by kernel_rfl)) rfl ?_
  exact ⟨rfl, set3_below HB.out GTBK.out⟩
end Go.Proofs.Ytiophiipmgpaeaa.F

namespace Go.Proofs.Ytiophiipmgpaeaa.F
open Go.RowKit Go.Proofs.YtiophiipmgpaeaaW.PrintWords Go.Proofs.YtiophiipmgpaeaaW.PrintLast Go.Proofs.YtiophiipmgpaeaaW.PrintMore
attribute [local go_sem] max2_int min2_int max_two min_two max_three min_three max_four min_four
set_option linter.unusedVariables false
set_option linter.unusedSimpArgs false
def laws_big.f (l0 : List Int) : Option (Bool) := some (decide ((l0.length : Int) > 1048576))
set_option maxHeartbeats 8000000 in
set_option maxRecDepth 100000 in
theorem laws_big.calls (A0 : Option Addr) (c0 : Nat) (l0 : List Int) (r : Bool) (w : World) (hr0 : Kd.C (Kd.int .u8) w A0 l0.length l0) (hc0 : l0.length ≤ c0) (h : laws_big.f l0 = some r) :
  Calls Try.prog 62 #[.slice A0 l0.length c0] w fun e w' => e = .returned (.bool r) ∧ Drawn0 w w' := by
 have HR0 := Aside0.mk hr0
 have HC0 := Aside0.mk hc0
 clear hr0 hc0
 have H : (some (decide ((l0.length : Int) > 1048576))) = some r := h
 clear h
 obtain rfl := Option.some.inj H
 go_enter Try.func62, Try.ntmps62
 go_wp2
 go_ret
 exact ⟨by first | rfl | (simp; done) | (simp [*]; done), by repeat (first | exact Drawn0.refl _ | apply Drawn0.step)⟩
end Go.Proofs.Ytiophiipmgpaeaa.F

namespace Go.Proofs.Ytiophiipmgpaeaa.F
open Go.RowKit Go.Proofs.YtiophiipmgpaeaaW.PrintWords Go.Proofs.YtiophiipmgpaeaaW.PrintLast Go.Proofs.YtiophiipmgpaeaaW.PrintMore
attribute [local go_sem] max2_int min2_int max_two min_two max_three min_three max_four min_four
set_option linter.unusedVariables false
set_option linter.unusedSimpArgs false
def IsS176 (w0 W : World) (g : Nat) (f0 : List Int) (f1 : Int) (f2 : Int) : Prop := ∃ A0 c0, W.heap[g]? = some (.cells #[.slice A0 f0.length c0, .int .i64 f1, .int .i64 f2] 176 (0, 0)) ∧ w0.heap.size ≤ g ∧ Kd.C (Kd.int .u8) w0 A0 f0.length f0
theorem IsS176.grown {w0 W : World} {g : Nat} {f0 : List Int} {f1 : Int} {f2 : Int} {W1 : World} {row : Option Nat} (h : IsS176 w0 W g f0 f1 f2) (hw : W.grownBy W1 row) (hne : some g ≠ row) : IsS176 w0 W1 g f0 f1 f2 := by
 obtain ⟨A0, c0, hb, hg, hr0⟩ := h
 exact ⟨A0, c0, blk_grown hb hw hne, hg, hr0⟩
theorem IsS176.kept {w0 W : World} {g : Nat} {f0 : List Int} {f1 : Int} {f2 : Int} {W1 : World} {S : Nat → Prop} (h : IsS176 w0 W g f0 f1 f2) (hk : Kept W W1 S) (hne : ¬ S g) : IsS176 w0 W1 g f0 f1 f2 := by
 obtain ⟨A0, c0, hb, hg, hr0⟩ := h
 exact ⟨A0, c0, blk_kept hb hk hne, hg, hr0⟩
theorem IsS176.below {w0 W : World} {g : Nat} {f0 : List Int} {f1 : Int} {f2 : Int} {W1 : World} (h : IsS176 w0 W g f0 f1 f2) (hw : Below W.heap.size W W1) : IsS176 w0 W1 g f0 f1 f2 := h.grown (grown_of_below hw none) (by simp)
theorem IsS176.alloc {w0 W : World} {g : Nat} {f0 : List Int} {f1 : Int} {f2 : Int} (h : IsS176 w0 W g f0 f1 f2) (o : Obj) : IsS176 w0 (W.alloc o) g f0 f1 f2 := h.below (below_alloc (Below.refl _ _) o)
theorem IsS176.drewN {w0 W : World} {g : Nat} {f0 : List Int} {f1 : Int} {f2 : Int} (h : IsS176 w0 W g f0 f1 f2) (m : Nat) : IsS176 w0 (W.drewN m) g f0 f1 f2 := h
theorem IsS176.drew {w0 W : World} {g : Nat} {f0 : List Int} {f1 : Int} {f2 : Int} (h : IsS176 w0 W g f0 f1 f2) : IsS176 w0 W.drew g f0 f1 f2 := h
theorem IsS176.at_ {w0 W : World} {g : Nat} {f0 : List Int} {f1 : Int} {f2 : Int} {w' : World} {m : Nat} (hq : W.drewN m = w') (h : IsS176 w0 W g f0 f1 f2) : IsS176 w0 w' g f0 f1 f2 := by subst hq; exact IsS176.drewN h m
theorem IsS176.apart {w0 W : World} {g : Nat} {f0 : List Int} {f1 : Int} {f2 : Int} {α : Type} {d : Kd α} {e : Nat} {base : Nat} {ok : Nat → Prop} {v : Value} {xs : List α} (h : IsS176 w0 W g f0 f1 f2) (ho : d.R e W base ok v xs) (ht : ∀ q, q ∈ e :: d.E → q ≠ 176) : d.R e W base (fun k => ok k ∧ k ≠ g) v xs := by
 obtain ⟨A0, c0, hb, hg, hr0⟩ := h
 exact Kd.R_types ho hb ht
theorem IsS176.own_ne {w0 W : World} {g : Nat} {f0 : List Int} {f1 : Int} {f2 : Int} {α : Type} {d : Kd α} {e : Nat} {base : Nat} {ok : Nat → Prop} {v : Value} {xs : List α} (h : IsS176 w0 W g f0 f1 f2) (ho : d.R e W base ok v xs) (ht : e ≠ 176) : some g ≠ v.ownBlock := by
 obtain ⟨A0, c0, hb, hg, hr0⟩ := h
 exact Kd.R_ne ho hb ht
theorem IsS176.lt {w0 W : World} {g : Nat} {f0 : List Int} {f1 : Int} {f2 : Int} (h : IsS176 w0 W g f0 f1 f2) : g < W.heap.size := by
 obtain ⟨A0, c0, hb, hg, hr0⟩ := h
 exact blk_lt hb
theorem IsS176.ge {w0 W : World} {g : Nat} {f0 : List Int} {f1 : Int} {f2 : Int} (h : IsS176 w0 W g f0 f1 f2) : w0.heap.size ≤ g := by
 obtain ⟨A0, c0, hb, hg, hr0⟩ := h
 exact hg
theorem IsS176.ne_blk {w0 W : World} {g : Nat} {f0 : List Int} {f1 : Int} {f2 : Int} {a : Nat} {cs : Array Value} {t : TypeId} {fr : Nat × Nat} (h : IsS176 w0 W g f0 f1 f2) (hb2 : W.heap[a]? = some (.cells cs t fr)) (ht : t ≠ 176) : g ≠ a := by
 obtain ⟨A0, c0, hb, hg, hr0⟩ := h
 rintro rfl
 rw [hb] at hb2
 injection hb2 with hb2
 injection hb2 with _ ht2
 exact ht ht2.symm
theorem IsS176.far {w0 W : World} {g : Nat} {f0 : List Int} {f1 : Int} {f2 : Int} {p : Addr} (h : IsS176 w0 W g f0 f1 f2) (hne : g ≠ p.block) (u : Value) : IsS176 w0 (W.setCell p u) g f0 f1 f2 := by
 obtain ⟨A0, c0, hb, hg, hr0⟩ := h
 exact ⟨A0, c0, blk_far hb hne u, hg, hr0⟩
theorem cellS176_0 {W : World} {g : Nat} {A0 : Option Addr} {c0 : Nat} {f0 : List Int} {f1 : Int} {f2 : Int} (h : W.heap[g]? = some (.cells #[.slice A0 f0.length c0, .int .i64 f1, .int .i64 f2] 176 (0, 0))) : W.cell? ⟨g, 0, none⟩ = some (.slice A0 f0.length c0) := (blk_cell h 0).trans rfl
theorem cellS176_1 {W : World} {g : Nat} {A0 : Option Addr} {c0 : Nat} {f0 : List Int} {f1 : Int} {f2 : Int} (h : W.heap[g]? = some (.cells #[.slice A0 f0.length c0, .int .i64 f1, .int .i64 f2] 176 (0, 0))) : W.cell? ⟨g, 1, none⟩ = some (.int .i64 f1) := (blk_cell h 1).trans rfl
theorem IsS176.set_1 {w0 W : World} {g : Nat} {f0 : List Int} {f1 : Int} {f2 : Int} (h : IsS176 w0 W g f0 f1 f2) (x : Int) : IsS176 w0 (W.setCell ⟨g, 1, none⟩ (.int .i64 x)) g f0 x f2 := by
 obtain ⟨A0, c0, hb, hg, hr0⟩ := h
 exact ⟨A0, c0, by simpa using blk_set hb 1 (.int .i64 x), hg, hr0⟩
theorem cellS176_2 {W : World} {g : Nat} {A0 : Option Addr} {c0 : Nat} {f0 : List Int} {f1 : Int} {f2 : Int} (h : W.heap[g]? = some (.cells #[.slice A0 f0.length c0, .int .i64 f1, .int .i64 f2] 176 (0, 0))) : W.cell? ⟨g, 2, none⟩ = some (.int .i64 f2) := (blk_cell h 2).trans rfl
theorem IsS176.set_2 {w0 W : World} {g : Nat} {f0 : List Int} {f1 : Int} {f2 : Int} (h : IsS176 w0 W g f0 f1 f2) (x : Int) : IsS176 w0 (W.setCell ⟨g, 2, none⟩ (.int .i64 x)) g f0 f1 x := by
 obtain ⟨A0, c0, hb, hg, hr0⟩ := h
 exact ⟨A0, c0, by simpa using blk_set hb 2 (.int .i64 x), hg, hr0⟩
def spec_l1New.l0 : Nat → List Int → Int → Int → Option (List Int × Int × Int)
 | 0, _, _, _ => none
 | k + 1, x0, x3, x4 => if x4 < (x0.length : Int) then (if x4 < 4000 then (if 0 ≤ x4 then (spec_l1New.l0 k x0 (Go.bits .and .i64 (wrap64 ((wrap64 ((wrap64 (x3 * 137)) + (wrap64 (rd x0 x4)))) + 11)) 1073741823) (wrap64 (x4 + 1))) else (none)) else (some (x0, 0, x3))) else (some (x0, 0, x3))
def spec_l1New.f (k : Nat) (l0 : List Int) : Option (List Int × Int × Int) := spec_l1New.l0 k l0 (wrap64 (193017 + (l0.length : Int))) 0
set_option maxHeartbeats 8000000 in
set_option maxRecDepth 100000 in
theorem spec_l1New.calls (k : Nat) (A0 : Option Addr) (c0 : Nat) (l0 : List Int) (r1 : List Int) (r2 : Int) (r3 : Int) (w0 w : World) (hB : Below w0.heap.size w0 w) (hr0 : Kd.C (Kd.int .u8) w0 A0 l0.length l0) (hc0 : l0.length ≤ c0) (h : spec_l1New.f k l0 = some (r1, r2, r3)) :
  Calls Try.prog 119 #[.slice A0 l0.length c0] w fun e w' => ∃ g_ : Nat, e = .returned (.pointer (some ⟨g_, 0, none⟩)) ∧ IsS176 w0 w' g_ r1 r2 r3 ∧ Below w0.heap.size w0 w' ∧ Below w.heap.size w w' := by
 have hu176 := Try.underlying176
 have HR0 := Aside0.mk hr0
 have HC0 := Aside0.mk hc0
 clear hr0 hc0
 have HBW := Aside0.mk (Below.refl w.heap.size w)
 have HW0 := Aside0.mk hB.size
 have HB := Aside0.mk hB
 clear hB
 have H : (spec_l1New.l0 k l0 (wrap64 (193017 + (l0.length : Int))) 0) = some (r1, r2, r3) := h
 clear h
 have H' := Aside0.mk H
 clear H
 go_enter Try.func119, Try.ntmps119
 go_wp2
 go_loopg [3, 4] k (fun kq v3 v4 w' => ∃ (x3_1 : Int) (x4_1 : Int), v3 = .int .i64 x3_1 ∧ v4 = .int .i64 x4_1 ∧ Aside0 (spec_l1New.l0 kq l0 x3_1 x4_1 = some (r1, r2, r3)) ∧ Aside0 (kq ≤ k) ∧ Aside0 (Below w0.heap.size w0 w') ∧ Aside0 (Below w.heap.size w w'))
 case atStart => exact ⟨(wrap64 (193017 + (l0.length : Int))), (0), (by first | rfl | (simp; done) | (simp [*]; done)), (by first | rfl | (simp; done) | (simp [*]; done)), H', ⟨Nat.le_refl _⟩, ⟨by repeat (first | (with_reducible first | exact HB.out | apply below_alloc | apply pw_below_drewN | apply below_drew1) | exact HB.out)⟩, ⟨by repeat (first | (with_reducible first | exact HBW.out | apply below_alloc | apply pw_below_drewN | apply below_drew1) | exact HBW.out)⟩⟩
 case round =>
  clear H'
  try clear c1
  obtain ⟨x3_1, x4_1, rfl, rfl, HA, HK1, HB, HBW1⟩ := hrel
  clear HBW
  have HBW := HBW1
  clear HBW1
  cases gk with
  | zero => exact absurd HA.out (by simp [spec_l1New.l0])
  | succ k1 =>
   have H := HA.out
   clear HA
   simp only [spec_l1New.l0] at H
   by_cases c2 : x4_1 < (l0.length : Int)
   ·
    rw [if_pos c2] at H
    have c2b0 : decide (x4_1 < (l0.length : Int)) = true := decide_eq_true c2
    clear c2
    by_cases c3 : x4_1 < 4000
    ·
     rw [if_pos c3] at H
     have c3b0 : decide (x4_1 < 4000) = true := decide_eq_true c3
     clear c3
     by_cases c4 : 0 ≤ x4_1
     ·
      rw [if_pos c4] at H
      have c4b0 : decide (0 ≤ x4_1) = true := decide_eq_true c4
      clear c4
      have H' := Aside0.mk H
      clear H
      have p1223 : 0 ≤ (x4_1 : Int) := of_decide_eq_true (by first | (with_reducible assumption) | assumption)
      have q1223 : x4_1 < (l0.length : Int) := of_decide_eq_true (by first | (with_reducible assumption) | assumption)
      obtain ⟨ad1223, e1223, hx1223_0⟩ := Kd.at_int HR0.out x4_1 p1223 q1223
      cases e1223
      replace hx1223_0 := pw_cell_below HB.out hx1223_0
      replace p1223 := eq_true p1223
      replace q1223 := eq_true q1223
      go_wp2
      go_roundg k1
      case measure => have := HK1.out; omega
      case rel => exact ⟨(Go.bits .and .i64 (wrap64 ((wrap64 ((wrap64 (x3_1 * 137)) + (wrap64 (rd l0 x4_1)))) + 11)) 1073741823), (wrap64 (x4_1 + 1)), (by first | rfl | (simp; done) | (simp [*]; done)), (by first | rfl | (simp; done) | (simp [*]; done)), H', ⟨by have := HK1.out; omega⟩, ⟨by repeat (first | (with_reducible first | exact HB.out | apply below_alloc | apply pw_below_drewN | apply below_drew1) | exact HB.out)⟩, ⟨by repeat (first | (with_reducible first | exact HBW.out | apply below_alloc | apply pw_below_drewN | apply below_drew1) | exact HBW.out)⟩⟩
     ·
      rw [if_neg c4] at H
      exact absurd H (by simp)
    ·
     rw [if_neg c3] at H
     have c3b0 : decide (x4_1 < 4000) = false := decide_eq_false c3
     clear c3
     simp only [Option.some.injEq, Prod.mk.injEq] at H
     obtain ⟨rfl, rfl, rfl⟩ := H
     go_wp2_with (first | ((with_reducible refine gate_dst (N := 31) rfl ?_); refine box_event ?hg (N := 31) ?hd (cs := #[.slice A0 l0.length c0, .int .i64 0, .int .i64 x3_1]) (t := 176) ?hr ?_; (case hd => rfl); (case hg => rfl); (case hr => first | (go_simp; done) | (go_simp; rfl)); intro gb1224 hg w5 hbox hb; have n0_ := Aside0.mk (below_step HBW.out hb); have n1_ := Aside0.mk (below_step (by repeat (first | (with_reducible first | exact HB.out | apply below_alloc | apply pw_below_drewN | apply below_drew1) | exact HB.out)) hb); have n2_ := Aside0.mk (hbox); have n3_ := Aside0.mk ((by rw [hg]; exact (below_size (by repeat (first | (with_reducible first | exact HBW.out | apply below_alloc | apply pw_below_drewN | apply below_drew1) | exact HBW.out))) : w.heap.size ≤ gb1224)); have n4_ := Aside0.mk ((Nat.le_trans HW0.out (by rw [hg]; exact (below_size (by repeat (first | (with_reducible first | exact HBW.out | apply below_alloc | apply pw_below_drewN | apply below_drew1) | exact HBW.out))) : w.heap.size ≤ gb1224) : w0.heap.size ≤ gb1224)); clear HBW; clear HB; have HBW := n0_; have HB := n1_; have BK1224 := n2_; have GW1224 := n3_; have GE1224 := n4_; clear n0_ n1_ n2_ n3_ n4_; clear hb hbox hg))
     go_ret
     exact ⟨_, rfl, (show IsS176 w0 _ gb1224 l0 0 x3_1 from ⟨_, _, by (with_reducible repeat (first | refine blk_drewN ?_ _ | refine blk_drew ?_ | refine blk_alloc ?_ _)); exact BK1224.out, GE1224.out, HR0.out⟩), by repeat (first | (with_reducible first | exact HB.out | apply below_alloc | apply pw_below_drewN | apply below_drew1 | refine below_set ?_ GE1224.out) | exact HB.out), by repeat (first | (with_reducible first | exact HBW.out | apply below_alloc | apply pw_below_drewN | apply below_drew1 | refine below_set ?_ GW1224.out) | exact HBW.out)⟩
   ·
    rw [if_neg c2] at H
    have c2b0 : decide (x4_1 < (l0.length : Int)) = false := decide_eq_false c2
    clear c2
    simp only [Option.some.injEq, Prod.mk.injEq] at H
    obtain ⟨rfl, rfl, rfl⟩ := H
    go_wp2_with (first | ((with_reducible refine gate_dst (N := 31) rfl ?_); refine box_event ?hg (N := 31) ?hd (cs := #[.slice A0 l0.length c0, .int .i64 0, .int .i64 x3_1]) (t := 176) ?hr ?_; (case hd => rfl); (case hg => rfl); (case hr => first | (go_simp; done) | (go_simp; rfl)); intro gb1225 hg w6 hbox hb; have n0_ := Aside0.mk (below_step HBW.out hb); have n1_ := Aside0.mk (below_step (by repeat (first | (with_reducible first | exact HB.out | apply below_alloc | apply pw_below_drewN | apply below_drew1) | exact HB.out)) hb); have n2_ := Aside0.mk (hbox); have n3_ := Aside0.mk ((by rw [hg]; exact (below_size (by repeat (first | (with_reducible first | exact HBW.out | apply below_alloc | apply pw_below_drewN | apply below_drew1) | exact HBW.out))) : w.heap.size ≤ gb1225)); have n4_ := Aside0.mk ((Nat.le_trans HW0.out (by rw [hg]; exact (below_size (by repeat (first | (with_reducible first | exact HBW.out | apply below_alloc | apply pw_below_drewN | apply below_drew1) | exact HBW.out))) : w.heap.size ≤ gb1225) : w0.heap.size ≤ gb1225)); clear HBW; clear HB; have HBW := n0_; have HB := n1_; have BK1225 := n2_; have GW1225 := n3_; have GE1225 := n4_; clear n0_ n1_ n2_ n3_ n4_; clear hb hbox hg))
    go_ret
    exact ⟨_, rfl, (show IsS176 w0 _ gb1225 l0 0 x3_1 from ⟨_, _, by (with_reducible repeat (first | refine blk_drewN ?_ _ | refine blk_drew ?_ | refine blk_alloc ?_ _)); exact BK1225.out, GE1225.out, HR0.out⟩), by repeat (first | (with_reducible first | exact HB.out | apply below_alloc | apply pw_below_drewN | apply below_drew1 | refine below_set ?_ GE1225.out) | exact HB.out), by repeat (first | (with_reducible first | exact HBW.out | apply below_alloc | apply pw_below_drewN | apply below_drew1 | refine below_set ?_ GW1225.out) | exact HBW.out)⟩
end Go.Proofs.Ytiophiipmgpaeaa.F

namespace Go.Proofs.Ytiophiipmgpaeaa.F
open Go.RowKit Go.Proofs.YtiophiipmgpaeaaW.PrintWords Go.Proofs.YtiophiipmgpaeaaW.PrintLast Go.Proofs.YtiophiipmgpaeaaW.PrintMore
attribute [local go_sem] max2_int min2_int max_two min_two max_three min_three max_four min_four
set_option linter.unusedVariables false
set_option linter.unusedSimpArgs false
def spec_l1Byte.f (s0_0 : List Int) (s0_1 : Int) (s0_2 : Int) : Option (Int × Int × Int) := if s0_1 < (s0_0.length : Int) then (if 0 ≤ s0_1 then (some (Go.bits .and .i64 (wrap64 ((Go.bits .and .i64 (Go.bits .xor .i64 ((wrap64 ((wrap64 (s0_2 * 6364136223846793005)) + 1442695040888963407)) / 8589934592) ((wrap64 ((wrap64 (s0_2 * 6364136223846793005)) + 1442695040888963407)) / 140737488355328)) 255) + (wrap64 (rd s0_0 s0_1)))) 255, wrap64 (s0_1 + 1), wrap64 ((wrap64 (s0_2 * 6364136223846793005)) + 1442695040888963407))) else (none)) else (some (Go.bits .and .i64 (Go.bits .xor .i64 ((wrap64 ((wrap64 (s0_2 * 6364136223846793005)) + 1442695040888963407)) / 8589934592) ((wrap64 ((wrap64 (s0_2 * 6364136223846793005)) + 1442695040888963407)) / 140737488355328)) 255, s0_1, wrap64 ((wrap64 (s0_2 * 6364136223846793005)) + 1442695040888963407)))
set_option maxHeartbeats 8000000 in
set_option maxRecDepth 100000 in
theorem spec_l1Byte.calls (g : Nat) (s0_0 : List Int) (s0_1 : Int) (s0_2 : Int) (r1 : Int) (r2 : Int) (r3 : Int) (w0 w : World) (hI : IsS176 w0 w g s0_0 s0_1 s0_2) (hB : Below w0.heap.size w0 w) (h : spec_l1Byte.f s0_0 s0_1 s0_2 = some (r1, r2, r3)) :
  Calls Try.prog 160 #[.pointer (some ⟨g, 0, none⟩)] w fun e w' => e = .returned (.int .i64 r1) ∧ IsS176 w0 w' g s0_0 r2 r3 ∧ Below w0.heap.size w0 w' ∧ KeepBut w w' g none := by
 have HI0 := Aside0.mk hI
 have HK := Aside0.mk (KeepBut.refl w g none)
 have HL := Aside0.mk hB.size
 clear hI
 have HW0 := Aside0.mk hB.size
 have HB := Aside0.mk hB
 clear hB
 have H : (if s0_1 < (s0_0.length : Int) then (if 0 ≤ s0_1 then (some (Go.bits .and .i64 (wrap64 ((Go.bits .and .i64 (Go.bits .xor .i64 ((wrap64 ((wrap64 (s0_2 * 6364136223846793005)) + 1442695040888963407)) / 8589934592) ((wrap64 ((wrap64 (s0_2 * 6364136223846793005)) + 1442695040888963407)) / 140737488355328)) 255) + (wrap64 (rd s0_0 s0_1)))) 255, wrap64 (s0_1 + 1), wrap64 ((wrap64 (s0_2 * 6364136223846793005)) + 1442695040888963407))) else (none)) else (some (Go.bits .and .i64 (Go.bits .xor .i64 ((wrap64 ((wrap64 (s0_2 * 6364136223846793005)) + 1442695040888963407)) / 8589934592) ((wrap64 ((wrap64 (s0_2 * 6364136223846793005)) + 1442695040888963407)) / 140737488355328)) 255, s0_1, wrap64 ((wrap64 (s0_2 * 6364136223846793005)) + 1442695040888963407)))) = some (r1, r2, r3) := h
 clear h
 by_cases c2 : s0_1 < (s0_0.length : Int)
 ·
  rw [if_pos c2] at H
  have c2b0 : decide (s0_1 < (s0_0.length : Int)) = true := decide_eq_true c2
  clear c2
  by_cases c3 : 0 ≤ s0_1
  ·
   rw [if_pos c3] at H
   have c3b0 : decide (0 ≤ s0_1) = true := decide_eq_true c3
   clear c3
   simp only [Option.some.injEq, Prod.mk.injEq] at H
   obtain ⟨rfl, rfl, rfl⟩ := H
   obtain ⟨ASz4_0, cSz4_0, HGz4, hgz4, HSz4_0⟩ := HI0.out
   have hcz4_0 := cellS176_0 HGz4
   have hcz4_1 := cellS176_1 HGz4
   have hcz4_2 := cellS176_2 HGz4
   have hfz4_1 := blk_frozen HGz4 1
   have hfz4_2 := blk_frozen HGz4 2
   clear HGz4 hgz4
   have p1226 : 0 ≤ (s0_1 : Int) := of_decide_eq_true (by first | (with_reducible assumption) | assumption)
   have q1226 : s0_1 < (s0_0.length : Int) := of_decide_eq_true (by first | (with_reducible assumption) | assumption)
   obtain ⟨ad1226, e1226, hx1226_0⟩ := Kd.at_int HSz4_0 s0_1 p1226 q1226
   cases e1226
   have hn1226_0 : ad1226.block ≠ g := Nat.ne_of_lt (Nat.lt_of_lt_of_le (by have := World.block_lt_of_cell? _ _ hx1226_0; first | rwa [add_block] at this | exact this) (IsS176.ge HI0.out))
   replace hx1226_0 := pw_cell_below HB.out hx1226_0
   replace hx1226_0 := (cell_far (p := ⟨g, 2, none⟩) (by first | (rw [add_block]; exact hn1226_0) | (show (Addr.add _ _).block ≠ _; rw [add_block]; exact hn1226_0) | exact hn1226_0) (.int .i64 (wrap64 ((wrap64 (s0_2 * 6364136223846793005)) + 1442695040888963407)))).trans hx1226_0
   (try have hy1226_0 := fun (n_ : Nat) => (show (((w.drewN n_).setCell ⟨g, 2, none⟩ (.int .i64 (wrap64 ((wrap64 (s0_2 * 6364136223846793005)) + 1442695040888963407))))).cell? _ = some _ from hx1226_0))
   clear hn1226_0
   replace p1226 := eq_true p1226
   replace q1226 := eq_true q1226
   go_enter Try.func160, Try.ntmps160
   go_wp2
   repeat (go_quiet (fail); try go_wp2)
   go_ret
   exact ⟨by first | rfl | (simp [errW_none, errW_some] <;> rfl) | (simp [*, errW_none, errW_some] <;> rfl), by repeat (first | (with_reducible first | exact HI0.out | apply IsS176.alloc | apply IsS176.drewN | apply IsS176.drew | apply IsS176.set_1 | apply IsS176.set_2) | exact HI0.out), by repeat (first | (with_reducible first | exact HB.out | apply below_alloc | apply pw_below_drewN | apply below_drew1 | refine below_set ?_ (IsS176.ge HI0.out)) | exact HB.out), by repeat (first | (with_reducible first | exact HK.out | apply KeepBut.set_ | apply keep_drewN | apply keep_drew | apply keep_alloc) | exact HK.out)⟩
  ·
   rw [if_neg c3] at H
   exact absurd H (by simp)
 ·
  rw [if_neg c2] at H
  have c2b0 : decide (s0_1 < (s0_0.length : Int)) = false := decide_eq_false c2
  clear c2
  simp only [Option.some.injEq, Prod.mk.injEq] at H
  obtain ⟨rfl, rfl, rfl⟩ := H
  obtain ⟨ASz5_0, cSz5_0, HGz5, hgz5, HSz5_0⟩ := HI0.out
  have hcz5_0 := cellS176_0 HGz5
  have hcz5_1 := cellS176_1 HGz5
  have hcz5_2 := cellS176_2 HGz5
  have hfz5_1 := blk_frozen HGz5 1
  have hfz5_2 := blk_frozen HGz5 2
  clear HGz5 hgz5
  go_enter Try.func160, Try.ntmps160
  go_wp2
  repeat (go_quiet (fail); try go_wp2)
  go_ret
  exact ⟨by first | rfl | (simp [errW_none, errW_some] <;> rfl) | (simp [*, errW_none, errW_some] <;> rfl), by repeat (first | (with_reducible first | exact HI0.out | apply IsS176.alloc | apply IsS176.drewN | apply IsS176.drew | apply IsS176.set_1 | apply IsS176.set_2) | exact HI0.out), by repeat (first | (with_reducible first | exact HB.out | apply below_alloc | apply pw_below_drewN | apply below_drew1 | refine below_set ?_ (IsS176.ge HI0.out)) | exact HB.out), by repeat (first | (with_reducible first | exact HK.out | apply KeepBut.set_ | apply keep_drewN | apply keep_drew | apply keep_alloc) | exact HK.out)⟩
end Go.Proofs.Ytiophiipmgpaeaa.F

namespace Go.Proofs.Ytiophiipmgpaeaa.F
open Go.RowKit Go.Proofs.YtiophiipmgpaeaaW.PrintWords Go.Proofs.YtiophiipmgpaeaaW.PrintLast Go.Proofs.YtiophiipmgpaeaaW.PrintMore
attribute [local go_sem] max2_int min2_int max_two min_two max_three min_three max_four min_four
set_option linter.unusedVariables false
set_option linter.unusedSimpArgs false
def spec_l1Below.f (s0_0 : List Int) (s0_1 : Int) (s0_2 : Int) (a1 : Int) : Option (Int × Int × Int) := if a1 ≤ 0 then (some (0, s0_1, s0_2)) else (if a1 ≤ 256 then ((spec_l1Byte.f s0_0 s0_1 s0_2).bind fun bt1227 => (if a1 = 0 then (none) else (some (Int.tmod bt1227.1 a1, bt1227.2.1, bt1227.2.2)))) else ((spec_l1Byte.f s0_0 s0_1 s0_2).bind fun bt1230 => ((spec_l1Byte.f s0_0 bt1230.2.1 bt1230.2.2).bind fun bt1233 => ((spec_l1Byte.f s0_0 bt1233.2.1 bt1233.2.2).bind fun bt1236 => (if a1 = 0 then (none) else (some (Int.tmod (wrap64 ((wrap64 ((wrap64 (bt1230.1 * 65536)) + (wrap64 (bt1233.1 * 256)))) + bt1236.1)) a1, bt1236.2.1, bt1236.2.2)))))))
set_option maxHeartbeats 8000000 in
set_option maxRecDepth 100000 in
theorem spec_l1Below.calls (g : Nat) (s0_0 : List Int) (s0_1 : Int) (s0_2 : Int) (a1 : Int) (r1 : Int) (r2 : Int) (r3 : Int) (w0 w : World) (hI : IsS176 w0 w g s0_0 s0_1 s0_2) (hB : Below w0.heap.size w0 w) (h : spec_l1Below.f s0_0 s0_1 s0_2 a1 = some (r1, r2, r3)) :
  Calls Try.prog 121 #[.pointer (some ⟨g, 0, none⟩), .int .i64 a1] w fun e w' => e = .returned (.int .i64 r1) ∧ IsS176 w0 w' g s0_0 r2 r3 ∧ Below w0.heap.size w0 w' ∧ KeepBut w w' g none := by
 have HI0 := Aside0.mk hI
 have HK := Aside0.mk (KeepBut.refl w g none)
 have HL := Aside0.mk hB.size
 clear hI
 have HW0 := Aside0.mk hB.size
 have HB := Aside0.mk hB
 clear hB
 have H : (if a1 ≤ 0 then (some (0, s0_1, s0_2)) else (if a1 ≤ 256 then ((spec_l1Byte.f s0_0 s0_1 s0_2).bind fun bt1227 => (if a1 = 0 then (none) else (some (Int.tmod bt1227.1 a1, bt1227.2.1, bt1227.2.2)))) else ((spec_l1Byte.f s0_0 s0_1 s0_2).bind fun bt1230 => ((spec_l1Byte.f s0_0 bt1230.2.1 bt1230.2.2).bind fun bt1233 => ((spec_l1Byte.f s0_0 bt1233.2.1 bt1233.2.2).bind fun bt1236 => (if a1 = 0 then (none) else (some (Int.tmod (wrap64 ((wrap64 ((wrap64 (bt1230.1 * 65536)) + (wrap64 (bt1233.1 * 256)))) + bt1236.1)) a1, bt1236.2.1, bt1236.2.2)))))))) = some (r1, r2, r3) := h
 clear h
 by_cases c3 : a1 ≤ 0
 ·
  rw [if_pos c3] at H
  have c3b0 : decide (a1 ≤ 0) = true := decide_eq_true c3
  clear c3
  simp only [Option.some.injEq, Prod.mk.injEq] at H
  obtain ⟨rfl, rfl, rfl⟩ := H
  go_enter Try.func121, Try.ntmps121
  go_wp2
  go_ret
  exact ⟨by first | rfl | (simp [errW_none, errW_some] <;> rfl) | (simp [*, errW_none, errW_some] <;> rfl), by repeat (first | (with_reducible first | exact HI0.out | apply IsS176.alloc | apply IsS176.drewN | apply IsS176.drew | apply IsS176.set_1 | apply IsS176.set_2) | exact HI0.out), by repeat (first | (with_reducible first | exact HB.out | apply below_alloc | apply pw_below_drewN | apply below_drew1 | refine below_set ?_ (IsS176.ge HI0.out)) | exact HB.out), by repeat (first | (with_reducible first | exact HK.out | apply KeepBut.set_ | apply keep_drewN | apply keep_drew | apply keep_alloc) | exact HK.out)⟩
 ·
  rw [if_neg c3] at H
  have c3b0 : decide (a1 ≤ 0) = false := decide_eq_false c3
  clear c3
  by_cases c4 : a1 ≤ 256
  ·
   rw [if_pos c4] at H
   have c4b0 : decide (a1 ≤ 256) = true := decide_eq_true c4
   clear c4
   replace H := Option.bind_eq_some_iff.mp H
   obtain ⟨⟨t1227, t1228, t1229⟩, A50, H⟩ := H
   try dsimp only at H
   have A5 := Aside0.mk A50
   clear A50
   by_cases c6 : a1 = 0
   ·
    rw [if_pos c6] at H
    exact absurd H (by simp)
   ·
    rw [if_neg c6] at H
    have c6b0 : (a1 == 0) = false := beq_eq_false_iff_ne.mpr c6
    have c6b1 : (a1 != 0) = true := bne_iff_ne.mpr c6
    simp only [Option.some.injEq, Prod.mk.injEq] at H
    obtain ⟨rfl, rfl, rfl⟩ := H
    go_enter Try.func121, Try.ntmps121
    go_wp2_with (first | ((with_reducible refine gate_callee (f := 160) rfl ?_); refine goesL_ (some 13) rfl rfl Try.func160 (by kernel_rfl) rfl #[.pointer (some ⟨g, 0, none⟩)] rfl (by (try simp only [List.map_toArray, List.map_cons, List.map_nil]); first | done | rfl | (simp only [List.length_drop, List.length_take]; rfl)) ?_; (with_reducible refine (spec_l1Byte.calls g s0_0 s0_1 s0_2 t1227 t1228 t1229 w0 _ ?side1 ?side2 A5.out).mono ?_); (case side1 => repeat (first | (with_reducible first | exact HI0.out | apply IsS176.alloc | apply IsS176.drewN | apply IsS176.drew | apply IsS176.set_1 | apply IsS176.set_2) | exact HI0.out)); (case side2 => repeat (first | (with_reducible first | exact HB.out | apply below_alloc | apply pw_below_drewN | apply below_drew1 | refine below_set ?_ (IsS176.ge HI0.out)) | exact HB.out)); rintro e w7 ⟨rfl, hi, hb, hk⟩; refine ⟨_, rfl, ?_⟩; have n0_ := Aside0.mk (KeepBut.trans (by repeat (first | (with_reducible first | exact HK.out | apply KeepBut.set_ | apply keep_drewN | apply keep_drew | apply keep_alloc) | exact HK.out)) hk (.inl rfl)); have n1_ := Aside0.mk (hb); have n2_ := Aside0.mk (hi); clear HK; clear HB; clear HI0; have HK := n0_; have HB := n1_; have HI0 := n2_; clear n0_ n1_ n2_; (try clear hb); (try clear hb2); (try clear hk); (try clear hi)))
    go_ret
    exact ⟨by first | rfl | (simp [errW_none, errW_some] <;> rfl) | (simp [*, errW_none, errW_some] <;> rfl), by repeat (first | (with_reducible first | exact HI0.out | apply IsS176.alloc | apply IsS176.drewN | apply IsS176.drew | apply IsS176.set_1 | apply IsS176.set_2) | exact HI0.out), by repeat (first | (with_reducible first | exact HB.out | apply below_alloc | apply pw_below_drewN | apply below_drew1 | refine below_set ?_ (IsS176.ge HI0.out)) | exact HB.out), by repeat (first | (with_reducible first | exact HK.out | apply KeepBut.set_ | apply keep_drewN | apply keep_drew | apply keep_alloc) | exact HK.out)⟩
  ·
   rw [if_neg c4] at H
   have c4b0 : decide (a1 ≤ 256) = false := decide_eq_false c4
   clear c4
   replace H := Option.bind_eq_some_iff.mp H
   obtain ⟨⟨t1230, t1231, t1232⟩, A80, H⟩ := H
   try dsimp only at H
   have A8 := Aside0.mk A80
   clear A80
   replace H := Option.bind_eq_some_iff.mp H
   obtain ⟨⟨t1233, t1234, t1235⟩, A90, H⟩ := H
   try dsimp only at H
   have A9 := Aside0.mk A90
   clear A90
   replace H := Option.bind_eq_some_iff.mp H
   obtain ⟨⟨t1236, t1237, t1238⟩, A100, H⟩ := H
   try dsimp only at H
   have A10 := Aside0.mk A100
   clear A100
   by_cases c11 : a1 = 0
   ·
    rw [if_pos c11] at H
    exact absurd H (by simp)
   ·
    rw [if_neg c11] at H
    have c11b0 : (a1 == 0) = false := beq_eq_false_iff_ne.mpr c11
    have c11b1 : (a1 != 0) = true := bne_iff_ne.mpr c11
    simp only [Option.some.injEq, Prod.mk.injEq] at H
    obtain ⟨rfl, rfl, rfl⟩ := H
    go_enter Try.func121, Try.ntmps121
    go_wp2_with (first | ((with_reducible refine gate_callee (f := 160) rfl ?_); refine goesL_ (some 17) rfl rfl Try.func160 (by kernel_rfl) rfl #[.pointer (some ⟨g, 0, none⟩)] rfl (by (try simp only [List.map_toArray, List.map_cons, List.map_nil]); first | done | rfl | (simp only [List.length_drop, List.length_take]; rfl)) ?_; (with_reducible refine (spec_l1Byte.calls g s0_0 s0_1 s0_2 t1230 t1231 t1232 w0 _ ?side1 ?side2 A8.out).mono ?_); (case side1 => repeat (first | (with_reducible first | exact HI0.out | apply IsS176.alloc | apply IsS176.drewN | apply IsS176.drew | apply IsS176.set_1 | apply IsS176.set_2) | exact HI0.out)); (case side2 => repeat (first | (with_reducible first | exact HB.out | apply below_alloc | apply pw_below_drewN | apply below_drew1 | refine below_set ?_ (IsS176.ge HI0.out)) | exact HB.out)); rintro e w12 ⟨rfl, hi, hb, hk⟩; refine ⟨_, rfl, ?_⟩; have n0_ := Aside0.mk (KeepBut.trans (by repeat (first | (with_reducible first | exact HK.out | apply KeepBut.set_ | apply keep_drewN | apply keep_drew | apply keep_alloc) | exact HK.out)) hk (.inl rfl)); have n1_ := Aside0.mk (hb); have n2_ := Aside0.mk (hi); clear HK; clear HB; clear HI0; have HK := n0_; have HB := n1_; have HI0 := n2_; clear n0_ n1_ n2_; (try clear hb); (try clear hb2); (try clear hk); (try clear hi)) | ((with_reducible refine gate_callee (f := 160) rfl ?_); refine goesL_ (some 19) rfl rfl Try.func160 (by kernel_rfl) rfl #[.pointer (some ⟨g, 0, none⟩)] rfl (by (try simp only [List.map_toArray, List.map_cons, List.map_nil]); first | done | rfl | (simp only [List.length_drop, List.length_take]; rfl)) ?_; (with_reducible refine (spec_l1Byte.calls g s0_0 t1231 t1232 t1233 t1234 t1235 w0 _ ?side1 ?side2 A9.out).mono ?_); (case side1 => repeat (first | (with_reducible first | exact HI0.out | apply IsS176.alloc | apply IsS176.drewN | apply IsS176.drew | apply IsS176.set_1 | apply IsS176.set_2) | exact HI0.out)); (case side2 => repeat (first | (with_reducible first | exact HB.out | apply below_alloc | apply pw_below_drewN | apply below_drew1 | refine below_set ?_ (IsS176.ge HI0.out)) | exact HB.out)); rintro e w13 ⟨rfl, hi, hb, hk⟩; refine ⟨_, rfl, ?_⟩; have n0_ := Aside0.mk (KeepBut.trans (by repeat (first | (with_reducible first | exact HK.out | apply KeepBut.set_ | apply keep_drewN | apply keep_drew | apply keep_alloc) | exact HK.out)) hk (.inl rfl)); have n1_ := Aside0.mk (hb); have n2_ := Aside0.mk (hi); clear HK; clear HB; clear HI0; have HK := n0_; have HB := n1_; have HI0 := n2_; clear n0_ n1_ n2_; (try clear hb); (try clear hb2); (try clear hk); (try clear hi)) | ((with_reducible refine gate_callee (f := 160) rfl ?_); refine goesL_ (some 21) rfl rfl Try.func160 (by kernel_rfl) rfl #[.pointer (some ⟨g, 0, none⟩)] rfl (by (try simp only [List.map_toArray, List.map_cons, List.map_nil]); first | done | rfl | (simp only [List.length_drop, List.length_take]; rfl)) ?_; (with_reducible refine (spec_l1Byte.calls g s0_0 t1234 t1235 t1236 t1237 t1238 w0 _ ?side1 ?side2 A10.out).mono ?_); (case side1 => repeat (first | (with_reducible first | exact HI0.out | apply IsS176.alloc | apply IsS176.drewN | apply IsS176.drew | apply IsS176.set_1 | apply IsS176.set_2) | exact HI0.out)); (case side2 => repeat (first | (with_reducible first | exact HB.out | apply below_alloc | apply pw_below_drewN | apply below_drew1 | refine below_set ?_ (IsS176.ge HI0.out)) | exact HB.out)); rintro e w14 ⟨rfl, hi, hb, hk⟩; refine ⟨_, rfl, ?_⟩; have n0_ := Aside0.mk (KeepBut.trans (by repeat (first | (with_reducible first | exact HK.out | apply KeepBut.set_ | apply keep_drewN | apply keep_drew | apply keep_alloc) | exact HK.out)) hk (.inl rfl)); have n1_ := Aside0.mk (hb); have n2_ := Aside0.mk (hi); clear HK; clear HB; clear HI0; have HK := n0_; have HB := n1_; have HI0 := n2_; clear n0_ n1_ n2_; (try clear hb); (try clear hb2); (try clear hk); (try clear hi)))
    go_ret
    exact ⟨by first | rfl | (simp [errW_none, errW_some] <;> rfl) | (simp [*, errW_none, errW_some] <;> rfl), by repeat (first | (with_reducible first | exact HI0.out | apply IsS176.alloc | apply IsS176.drewN | apply IsS176.drew | apply IsS176.set_1 | apply IsS176.set_2) | exact HI0.out), by repeat (first | (with_reducible first | exact HB.out | apply below_alloc | apply pw_below_drewN | apply below_drew1 | refine below_set ?_ (IsS176.ge HI0.out)) | exact HB.out), by repeat (first | (with_reducible first | exact HK.out | apply KeepBut.set_ | apply keep_drewN | apply keep_drew | apply keep_alloc) | exact HK.out)⟩
end Go.Proofs.Ytiophiipmgpaeaa.F

namespace Go.Proofs.Ytiophiipmgpaeaa.F
open Go.RowKit Go.Proofs.YtiophiipmgpaeaaW.PrintWords Go.Proofs.YtiophiipmgpaeaaW.PrintLast Go.Proofs.YtiophiipmgpaeaaW.PrintMore
attribute [local go_sem] max2_int min2_int max_two min_two max_three min_three max_four min_four
set_option linter.unusedVariables false
set_option linter.unusedSimpArgs false
def spec_l1Int.f (s0_0 : List Int) (s0_1 : Int) (s0_2 : Int) (l1 : List Int) : Option (Int × Int × Int) := (spec_l1Below.f s0_0 s0_1 s0_2 (l1.length : Int)).bind fun bt1239 => (if 0 ≤ bt1239.1 then (if bt1239.1 < (l1.length : Int) then (some (rd l1 bt1239.1, bt1239.2.1, bt1239.2.2)) else (none)) else (none))
set_option maxHeartbeats 8000000 in
set_option maxRecDepth 100000 in
theorem spec_l1Int.calls (g : Nat) (s0_0 : List Int) (s0_1 : Int) (s0_2 : Int) (A1 : Option Addr) (c1 : Nat) (l1 : List Int) (r1 : Int) (r2 : Int) (r3 : Int) (w0 w : World) (hI : IsS176 w0 w g s0_0 s0_1 s0_2) (hB : Below w0.heap.size w0 w) (hr1 : Kd.C (Kd.int .i64) w A1 l1.length l1) (hc1 : l1.length ≤ c1) (hf1 : ∀ ad, A1 = some ad → 0 < l1.length → ad.block ≠ g) (h : spec_l1Int.f s0_0 s0_1 s0_2 l1 = some (r1, r2, r3)) :
  Calls Try.prog 131 #[.pointer (some ⟨g, 0, none⟩), .slice A1 l1.length c1] w fun e w' => e = .returned (.int .i64 r1) ∧ IsS176 w0 w' g s0_0 r2 r3 ∧ Below w0.heap.size w0 w' ∧ KeepBut w w' g none := by
 have HR1 := Aside0.mk hr1
 have HC1 := Aside0.mk hc1
 clear hr1 hc1
 have HI0 := Aside0.mk hI
 have HK := Aside0.mk (KeepBut.refl w g none)
 have HL := Aside0.mk hB.size
 clear hI
 have HW0 := Aside0.mk hB.size
 have HB := Aside0.mk hB
 clear hB
 have H : ((spec_l1Below.f s0_0 s0_1 s0_2 (l1.length : Int)).bind fun bt1239 => (if 0 ≤ bt1239.1 then (if bt1239.1 < (l1.length : Int) then (some (rd l1 bt1239.1, bt1239.2.1, bt1239.2.2)) else (none)) else (none))) = some (r1, r2, r3) := h
 clear h
 replace H := Option.bind_eq_some_iff.mp H
 obtain ⟨⟨t1239, t1240, t1241⟩, A30, H⟩ := H
 try dsimp only at H
 have A3 := Aside0.mk A30
 clear A30
 by_cases c4 : 0 ≤ t1239
 ·
  rw [if_pos c4] at H
  have c4b0 : decide (0 ≤ t1239) = true := decide_eq_true c4
  clear c4
  by_cases c5 : t1239 < (l1.length : Int)
  ·
   rw [if_pos c5] at H
   have c5b0 : decide (t1239 < (l1.length : Int)) = true := decide_eq_true c5
   clear c5
   simp only [Option.some.injEq, Prod.mk.injEq] at H
   obtain ⟨rfl, rfl, rfl⟩ := H
   go_enter Try.func131, Try.ntmps131
   go_wp2_with (first | ((with_reducible refine gate_callee (f := 121) rfl ?_); refine goesL_ (some 9) rfl rfl Try.func121 (by kernel_rfl) rfl #[.pointer (some ⟨g, 0, none⟩), .int .i64 (l1.length : Int)] rfl (by (try simp only [List.map_toArray, List.map_cons, List.map_nil]); first | done | rfl | (simp only [List.length_drop, List.length_take]; rfl)) ?_; (with_reducible refine (spec_l1Below.calls g s0_0 s0_1 s0_2 (l1.length : Int) t1239 t1240 t1241 w0 _ ?side1 ?side2 A3.out).mono ?_); (case side1 => repeat (first | (with_reducible first | exact HI0.out | apply IsS176.alloc | apply IsS176.drewN | apply IsS176.drew | apply IsS176.set_1 | apply IsS176.set_2) | exact HI0.out)); (case side2 => repeat (first | (with_reducible first | exact HB.out | apply below_alloc | apply pw_below_drewN | apply below_drew1 | refine below_set ?_ (IsS176.ge HI0.out)) | exact HB.out)); rintro e w6 ⟨rfl, hi, hb, hk⟩; refine ⟨_, rfl, ?_⟩; have n0_ := Aside0.mk (KeepBut.trans (by repeat (first | (with_reducible first | exact HK.out | apply KeepBut.set_ | apply keep_drewN | apply keep_drew | apply keep_alloc) | exact HK.out)) hk (.inl rfl)); have n1_ := Aside0.mk (hb); have n2_ := Aside0.mk (hi); clear HK; clear HB; clear HI0; have HK := n0_; have HB := n1_; have HI0 := n2_; clear n0_ n1_ n2_; (try clear hb); (try clear hb2); (try clear hk); (try clear hi); have p1242 : 0 ≤ (t1239 : Int) := of_decide_eq_true (by first | (with_reducible assumption) | assumption); have q1242 : t1239 < (l1.length : Int) := of_decide_eq_true (by first | (with_reducible assumption) | assumption); obtain ⟨ad1242, e1242, hx1242_0⟩ := Kd.at_int HR1.out t1239 p1242 q1242; cases e1242; replace hx1242_0 := keep_cell HK.out hx1242_0 (by first | (rw [add_block]; exact hf1 _ rfl (by omega)) | exact hf1 _ rfl (by omega) | exact hf1 ad1242 rfl (by omega)); replace p1242 := eq_true p1242; replace q1242 := eq_true q1242))
   go_ret
   exact ⟨by first | rfl | (simp [errW_none, errW_some] <;> rfl) | (simp [*, errW_none, errW_some] <;> rfl), by repeat (first | (with_reducible first | exact HI0.out | apply IsS176.alloc | apply IsS176.drewN | apply IsS176.drew | apply IsS176.set_1 | apply IsS176.set_2) | exact HI0.out), by repeat (first | (with_reducible first | exact HB.out | apply below_alloc | apply pw_below_drewN | apply below_drew1 | refine below_set ?_ (IsS176.ge HI0.out)) | exact HB.out), by repeat (first | (with_reducible first | exact HK.out | apply KeepBut.set_ | apply keep_drewN | apply keep_drew | apply keep_alloc) | exact HK.out)⟩
  ·
   rw [if_neg c5] at H
   exact absurd H (by simp)
 ·
  rw [if_neg c4] at H
  exact absurd H (by simp)
end Go.Proofs.Ytiophiipmgpaeaa.F

namespace Go.Proofs.Ytiophiipmgpaeaa.F
open Go.RowKit Go.Proofs.YtiophiipmgpaeaaW.PrintWords Go.Proofs.YtiophiipmgpaeaaW.PrintLast Go.Proofs.YtiophiipmgpaeaaW.PrintMore
attribute [local go_sem] max2_int min2_int max_two min_two max_three min_three max_four min_four
set_option linter.unusedVariables false
set_option linter.unusedSimpArgs false
def spec_l7Key.f (s0_0 : List Int) (s0_1 : Int) (s0_2 : Int) : Option (Int × Int × Int) := (spec_l1Below.f s0_0 s0_1 s0_2 15).bind fun bt1395 => (some (wrap64 (bt1395.1 - 7), bt1395.2.1, bt1395.2.2))
set_option maxHeartbeats 8000000 in
set_option maxRecDepth 100000 in
theorem spec_l7Key.calls (g : Nat) (s0_0 : List Int) (s0_1 : Int) (s0_2 : Int) (r1 : Int) (r2 : Int) (r3 : Int) (w0 w : World) (hI : IsS176 w0 w g s0_0 s0_1 s0_2) (hB : Below w0.heap.size w0 w) (h : spec_l7Key.f s0_0 s0_1 s0_2 = some (r1, r2, r3)) :
  Calls Try.prog 161 #[.pointer (some ⟨g, 0, none⟩)] w fun e w' => e = .returned (.int .i64 r1) ∧ IsS176 w0 w' g s0_0 r2 r3 ∧ Below w0.heap.size w0 w' ∧ KeepBut w w' g none := by
 have HI0 := Aside0.mk hI
 have HK := Aside0.mk (KeepBut.refl w g none)
 have HL := Aside0.mk hB.size
 clear hI
 have HW0 := Aside0.mk hB.size
 have HB := Aside0.mk hB
 clear hB
 have H : ((spec_l1Below.f s0_0 s0_1 s0_2 15).bind fun bt1395 => (some (wrap64 (bt1395.1 - 7), bt1395.2.1, bt1395.2.2))) = some (r1, r2, r3) := h
 clear h
 replace H := Option.bind_eq_some_iff.mp H
 obtain ⟨⟨t1395, t1396, t1397⟩, A20, H⟩ := H
 try dsimp only at H
 have A2 := Aside0.mk A20
 clear A20
 simp only [Option.some.injEq, Prod.mk.injEq] at H
 obtain ⟨rfl, rfl, rfl⟩ := H
 go_enter Try.func161, Try.ntmps161
 go_wp2_with (first | ((with_reducible refine gate_callee (f := 121) rfl ?_); refine goesL_ (some 4) rfl rfl Try.func121 (by kernel_rfl) rfl #[.pointer (some ⟨g, 0, none⟩), .int .i64 15] rfl (by (try simp only [List.map_toArray, List.map_cons, List.map_nil]); first | done | rfl | (simp only [List.length_drop, List.length_take]; rfl)) ?_; (with_reducible refine (spec_l1Below.calls g s0_0 s0_1 s0_2 15 t1395 t1396 t1397 w0 _ ?side1 ?side2 A2.out).mono ?_); (case side1 => repeat (first | (with_reducible first | exact HI0.out | apply IsS176.alloc | apply IsS176.drewN | apply IsS176.drew | apply IsS176.set_1 | apply IsS176.set_2) | exact HI0.out)); (case side2 => repeat (first | (with_reducible first | exact HB.out | apply below_alloc | apply pw_below_drewN | apply below_drew1 | refine below_set ?_ (IsS176.ge HI0.out)) | exact HB.out)); rintro e w3 ⟨rfl, hi, hb, hk⟩; refine ⟨_, rfl, ?_⟩; have n0_ := Aside0.mk (KeepBut.trans (by repeat (first | (with_reducible first | exact HK.out | apply KeepBut.set_ | apply keep_drewN | apply keep_drew | apply keep_alloc) | exact HK.out)) hk (.inl rfl)); have n1_ := Aside0.mk (hb); have n2_ := Aside0.mk (hi); clear HK; clear HB; clear HI0; have HK := n0_; have HB := n1_; have HI0 := n2_; clear n0_ n1_ n2_; (try clear hb); (try clear hb2); (try clear hk); (try clear hi)))
 go_ret
 exact ⟨by first | rfl | (simp [errW_none, errW_some] <;> rfl) | (simp [*, errW_none, errW_some] <;> rfl), by repeat (first | (with_reducible first | exact HI0.out | apply IsS176.alloc | apply IsS176.drewN | apply IsS176.drew | apply IsS176.set_1 | apply IsS176.set_2) | exact HI0.out), by repeat (first | (with_reducible first | exact HB.out | apply below_alloc | apply pw_below_drewN | apply below_drew1 | refine below_set ?_ (IsS176.ge HI0.out)) | exact HB.out), by repeat (first | (with_reducible first | exact HK.out | apply KeepBut.set_ | apply keep_drewN | apply keep_drew | apply keep_alloc) | exact HK.out)⟩
end Go.Proofs.Ytiophiipmgpaeaa.F

namespace Go.Proofs.Ytiophiipmgpaeaa.F
open Go.RowKit Go.Proofs.YtiophiipmgpaeaaW.PrintWords Go.Proofs.YtiophiipmgpaeaaW.PrintLast Go.Proofs.YtiophiipmgpaeaaW.PrintMore
attribute [local go_sem] max2_int min2_int max_two min_two max_three min_three max_four min_four
set_option linter.unusedVariables false
set_option linter.unusedSimpArgs false
def spec_l7Any.f (s0_0 : List Int) (s0_1 : Int) (s0_2 : Int) : Option (Int × Int × Int) := (spec_l7Key.f s0_0 s0_1 s0_2).bind fun bt1398 => ((spec_l7Key.f s0_0 bt1398.2.1 bt1398.2.2).bind fun bt1401 => ((spec_l7Key.f s0_0 bt1401.2.1 bt1401.2.2).bind fun bt1404 => ((spec_l1Int.f s0_0 bt1404.2.1 bt1404.2.2 (([bt1398.1, bt1401.1, bt1404.1, (-8), 8, 9223372036854775807] : List Int))).bind fun bt1410 => (some (bt1410.1, bt1410.2.1, bt1410.2.2)))))
set_option maxHeartbeats 8000000 in
set_option maxRecDepth 100000 in
theorem spec_l7Any.calls (g : Nat) (s0_0 : List Int) (s0_1 : Int) (s0_2 : Int) (r1 : Int) (r2 : Int) (r3 : Int) (w0 w : World) (hI : IsS176 w0 w g s0_0 s0_1 s0_2) (hB : Below w0.heap.size w0 w) (h : spec_l7Any.f s0_0 s0_1 s0_2 = some (r1, r2, r3)) :
  Calls Try.prog 125 #[.pointer (some ⟨g, 0, none⟩)] w fun e w' => e = .returned (.int .i64 r1) ∧ IsS176 w0 w' g s0_0 r2 r3 ∧ Below w0.heap.size w0 w' ∧ KeepBut w w' g none := by
 have HI0 := Aside0.mk hI
 have HK := Aside0.mk (KeepBut.refl w g none)
 have HL := Aside0.mk hB.size
 clear hI
 have HW0 := Aside0.mk hB.size
 have HB := Aside0.mk hB
 clear hB
 have H : ((spec_l7Key.f s0_0 s0_1 s0_2).bind fun bt1398 => ((spec_l7Key.f s0_0 bt1398.2.1 bt1398.2.2).bind fun bt1401 => ((spec_l7Key.f s0_0 bt1401.2.1 bt1401.2.2).bind fun bt1404 => ((spec_l1Int.f s0_0 bt1404.2.1 bt1404.2.2 (([bt1398.1, bt1401.1, bt1404.1, (-8), 8, 9223372036854775807] : List Int))).bind fun bt1410 => (some (bt1410.1, bt1410.2.1, bt1410.2.2)))))) = some (r1, r2, r3) := h
 clear h
 replace H := Option.bind_eq_some_iff.mp H
 obtain ⟨⟨t1398, t1399, t1400⟩, A20, H⟩ := H
 try dsimp only at H
 have A2 := Aside0.mk A20
 clear A20
 replace H := Option.bind_eq_some_iff.mp H
 obtain ⟨⟨t1401, t1402, t1403⟩, A30, H⟩ := H
 try dsimp only at H
 have A3 := Aside0.mk A30
 clear A30
 replace H := Option.bind_eq_some_iff.mp H
 obtain ⟨⟨t1404, t1405, t1406⟩, A40, H⟩ := H
 try dsimp only at H
 have A4 := Aside0.mk A40
 clear A40
 obtain ⟨y1407, hy1407⟩ : ∃ y_ : List Int, y_ = (([t1398, t1401, t1404, (-8), 8, 9223372036854775807] : List Int)) := ⟨_, rfl⟩
 replace H : ((spec_l1Int.f s0_0 t1405 t1406 y1407).bind fun bt1410 => (some (bt1410.1, bt1410.2.1, bt1410.2.2))) = some (r1, r2, r3) := by first | (rw [hy1407]; with_reducible exact H) | (have H2_ := (Option.bind_some _ _).symm.trans H; rw [hy1407]; with_reducible exact H2_) | (have H2_ := (Option.bind_some _ _).symm.trans H; with_reducible exact H2_) | with_reducible exact H | (rw [hy1407]; exact H) | exact H
 have Ny1407 := Aside0.mk hy1407
 clear hy1407
 replace H := Option.bind_eq_some_iff.mp H
 obtain ⟨⟨t1410, t1411, t1412⟩, A50, H⟩ := H
 try dsimp only at H
 have A5 := Aside0.mk A50
 clear A50
 simp only [Option.some.injEq, Prod.mk.injEq] at H
 obtain ⟨rfl, rfl, rfl⟩ := H
 go_enter Try.func125, Try.ntmps125
 go_wp2_with (first | ((with_reducible refine gate_callee (f := 161) rfl ?_); refine goesL_ (some 5) rfl rfl Try.func161 (by kernel_rfl) rfl #[.pointer (some ⟨g, 0, none⟩)] rfl (by (try simp only [List.map_toArray, List.map_cons, List.map_nil]); first | done | rfl | (simp only [List.length_drop, List.length_take]; rfl)) ?_; (with_reducible refine (spec_l7Key.calls g s0_0 s0_1 s0_2 t1398 t1399 t1400 w0 _ ?side1 ?side2 A2.out).mono ?_); (case side1 => repeat (first | (with_reducible first | exact HI0.out | apply IsS176.alloc | apply IsS176.drewN | apply IsS176.drew | apply IsS176.set_1 | apply IsS176.set_2) | exact HI0.out)); (case side2 => repeat (first | (with_reducible first | exact HB.out | apply below_alloc | apply pw_below_drewN | apply below_drew1 | refine below_set ?_ (IsS176.ge HI0.out)) | exact HB.out)); rintro e w6 ⟨rfl, hi, hb, hk⟩; refine ⟨_, rfl, ?_⟩; have n0_ := Aside0.mk (KeepBut.trans (by repeat (first | (with_reducible first | exact HK.out | apply KeepBut.set_ | apply keep_drewN | apply keep_drew | apply keep_alloc) | exact HK.out)) hk (.inl rfl)); have n1_ := Aside0.mk (hb); have n2_ := Aside0.mk (hi); clear HK; clear HB; clear HI0; have HK := n0_; have HB := n1_; have HI0 := n2_; clear n0_ n1_ n2_; (try clear hb); (try clear hb2); (try clear hk); (try clear hi)) | ((with_reducible refine gate_callee (f := 161) rfl ?_); refine goesL_ (some 7) rfl rfl Try.func161 (by kernel_rfl) rfl #[.pointer (some ⟨g, 0, none⟩)] rfl (by (try simp only [List.map_toArray, List.map_cons, List.map_nil]); first | done | rfl | (simp only [List.length_drop, List.length_take]; rfl)) ?_; (with_reducible refine (spec_l7Key.calls g s0_0 t1399 t1400 t1401 t1402 t1403 w0 _ ?side1 ?side2 A3.out).mono ?_); (case side1 => repeat (first | (with_reducible first | exact HI0.out | apply IsS176.alloc | apply IsS176.drewN | apply IsS176.drew | apply IsS176.set_1 | apply IsS176.set_2) | exact HI0.out)); (case side2 => repeat (first | (with_reducible first | exact HB.out | apply below_alloc | apply pw_below_drewN | apply below_drew1 | refine below_set ?_ (IsS176.ge HI0.out)) | exact HB.out)); rintro e w7 ⟨rfl, hi, hb, hk⟩; refine ⟨_, rfl, ?_⟩; have n0_ := Aside0.mk (KeepBut.trans (by repeat (first | (with_reducible first | exact HK.out | apply KeepBut.set_ | apply keep_drewN | apply keep_drew | apply keep_alloc) | exact HK.out)) hk (.inl rfl)); have n1_ := Aside0.mk (hb); have n2_ := Aside0.mk (hi); clear HK; clear HB; clear HI0; have HK := n0_; have HB := n1_; have HI0 := n2_; clear n0_ n1_ n2_; (try clear hb); (try clear hb2); (try clear hk); (try clear hi)) | ((with_reducible refine gate_callee (f := 161) rfl ?_); refine goesL_ (some 9) rfl rfl Try.func161 (by kernel_rfl) rfl #[.pointer (some ⟨g, 0, none⟩)] rfl (by (try simp only [List.map_toArray, List.map_cons, List.map_nil]); first | done | rfl | (simp only [List.length_drop, List.length_take]; rfl)) ?_; (with_reducible refine (spec_l7Key.calls g s0_0 t1402 t1403 t1404 t1405 t1406 w0 _ ?side1 ?side2 A4.out).mono ?_); (case side1 => repeat (first | (with_reducible first | exact HI0.out | apply IsS176.alloc | apply IsS176.drewN | apply IsS176.drew | apply IsS176.set_1 | apply IsS176.set_2) | exact HI0.out)); (case side2 => repeat (first | (with_reducible first | exact HB.out | apply below_alloc | apply pw_below_drewN | apply below_drew1 | refine below_set ?_ (IsS176.ge HI0.out)) | exact HB.out)); rintro e w8 ⟨rfl, hi, hb, hk⟩; refine ⟨_, rfl, ?_⟩; have n0_ := Aside0.mk (KeepBut.trans (by repeat (first | (with_reducible first | exact HK.out | apply KeepBut.set_ | apply keep_drewN | apply keep_drew | apply keep_alloc) | exact HK.out)) hk (.inl rfl)); have n1_ := Aside0.mk (hb); have n2_ := Aside0.mk (hi); clear HK; clear HB; clear HI0; have HK := n0_; have HB := n1_; have HI0 := n2_; clear n0_ n1_ n2_; (try clear hb); (try clear hb2); (try clear hk); (try clear hi)) | ((with_reducible refine gate_dst (N := 10) rfl ?_); refine Kd.R_lit (Kd.int .i64) _ 3 ?hg (N := 10) ?hd (xs := ([t1398, t1401, t1404, (-8), 8, 9223372036854775807] : List Int)) (inner := [.int .i64 t1398, .int .i64 t1401, .int .i64 t1404, .int .i64 (-8), .int .i64 8, .int .i64 9223372036854775807]) (ok := fun _ => True) (okp := fun _ => True) ?hr ?hp (fun _ hk => hk) trivial (Below.refl _ _) (Nat.le_refl _) (by simp) ?_; (case hd => rfl); (case hg => rfl); (case hr => first | (go_simp; done) | (go_simp; rfl)); (case hp => exact (Reps.one (show Kd.M (Kd.int .i64) _ _ _ t1398 [.int .i64 t1398] from rfl) (Reps.one (show Kd.M (Kd.int .i64) _ _ _ t1401 [.int .i64 t1401] from rfl) (Reps.one (show Kd.M (Kd.int .i64) _ _ _ t1404 [.int .i64 t1404] from rfl) (Reps.one (show Kd.M (Kd.int .i64) _ _ _ (-8) [.int .i64 (-8)] from rfl) (Reps.one (show Kd.M (Kd.int .i64) _ _ _ 8 [.int .i64 8] from rfl) (Reps.one (show Kd.M (Kd.int .i64) _ _ _ 9223372036854775807 [.int .i64 9223372036854775807] from rfl) (Reps.none _ _)))))))); intro v1408 w9 ho10 hb hg_ hnew_; clear hg_ hnew_; (first | rw [← Ny1407.out] at ho10 | (simp only [Int.reduceToNat] at ho10; rw [← Ny1407.out] at ho10)); have n0_ := Aside0.mk (Kd.R_lower ho10 (keep_size (w := w) (g := g) (row := none) (by repeat (first | (with_reducible first | exact HK.out | apply KeepBut.set_ | apply keep_drewN | apply keep_drew | apply keep_alloc) | exact HK.out)))); have n1_ := Aside0.mk (IsS176.below (by repeat (first | (with_reducible first | exact HI0.out | apply IsS176.alloc | apply IsS176.drewN | apply IsS176.drew | apply IsS176.set_1 | apply IsS176.set_2) | exact HI0.out)) hb); have n2_ := Aside0.mk (KeepBut.trans (by repeat (first | (with_reducible first | exact HK.out | apply KeepBut.set_ | apply keep_drewN | apply keep_drew | apply keep_alloc) | exact HK.out)) (KeepBut.of_below hb g none) (.inl rfl)); have n3_ := Aside0.mk (below_step (by repeat (first | (with_reducible first | exact HB.out | apply below_alloc | apply pw_below_drewN | apply below_drew1 | refine below_set ?_ (IsS176.ge HI0.out)) | exact HB.out)) hb); clear HI0; clear HK; clear HB; have HO1409 := n0_; have HI0 := n1_; have HK := n2_; have HB := n3_; clear n0_ n1_ n2_ n3_; clear hb ho10; obtain ⟨Ao11, co11, eo11⟩ := Kd.R_slice HO1409.out; subst eo11) | ((with_reducible refine gate_callee (f := 131) rfl ?_); refine goesL_ (some 11) rfl rfl Try.func131 (by kernel_rfl) rfl #[.pointer (some ⟨g, 0, none⟩), .slice Ao11 y1407.length co11] rfl (by (try simp only [List.map_toArray, List.map_cons, List.map_nil]); first | done | rfl | (simp only [List.length_drop, List.length_take]; rfl)) ?_; (with_reducible refine (spec_l1Int.calls g s0_0 t1405 t1406 _ _ y1407 t1410 t1411 t1412 w0 _ ?side1 ?side2 ?side3 ?side4 ?side5 A5.out).mono ?_); (case side1 => repeat (first | (with_reducible first | exact HI0.out | apply IsS176.alloc | apply IsS176.drewN | apply IsS176.drew | apply IsS176.set_1 | apply IsS176.set_2) | exact HI0.out)); (case side2 => repeat (first | (with_reducible first | exact HB.out | apply below_alloc | apply pw_below_drewN | apply below_drew1 | refine below_set ?_ (IsS176.ge HI0.out)) | exact HB.out)); (case side3 => repeat (first | exact (Kd.R_reads' HO1409.out).2.2 | (with_reducible refine Kd.C_alloc ?_ _) | (with_reducible refine Kd.C_drewN ?_ _) | (with_reducible refine Kd.C_drew ?_))); (case side4 => exact (Kd.R_reads' HO1409.out).2.1); (case side5 => exact far_slice (IsS176.own_ne HI0.out HO1409.out (by decide))); rintro e w12 ⟨rfl, hi, hb, hk⟩; refine ⟨_, rfl, ?_⟩; have n0_ := Aside0.mk (Kd.R_mono (Kd.R_keep (IsS176.apart (show IsS176 w0 _ g s0_0 t1405 t1406 from by repeat (first | (with_reducible first | exact HI0.out | apply IsS176.alloc | apply IsS176.drewN | apply IsS176.drew | apply IsS176.set_1 | apply IsS176.set_2) | exact HI0.out)) (by (with_reducible repeat (first | apply Kd.R_alloc | apply Kd.R_drewN | apply Kd.R_drew)); exact HO1409.out) (by decide)) hk (fun _ h => h.2)) (fun _ h => h.1)); have n1_ := Aside0.mk (KeepBut.trans (by repeat (first | (with_reducible first | exact HK.out | apply KeepBut.set_ | apply keep_drewN | apply keep_drew | apply keep_alloc) | exact HK.out)) hk (.inl rfl)); have n2_ := Aside0.mk (hb); have n3_ := Aside0.mk (hi); clear HO1409; clear HK; clear HB; clear HI0; have HO1409 := n0_; have HK := n1_; have HB := n2_; have HI0 := n3_; clear n0_ n1_ n2_ n3_; (try clear hb); (try clear hb2); (try clear hk); (try clear hi)))
 go_ret
 exact ⟨by first | rfl | (simp [errW_none, errW_some] <;> rfl) | (simp [*, errW_none, errW_some] <;> rfl), by repeat (first | (with_reducible first | exact HI0.out | apply IsS176.alloc | apply IsS176.drewN | apply IsS176.drew | apply IsS176.set_1 | apply IsS176.set_2) | exact HI0.out), by repeat (first | (with_reducible first | exact HB.out | apply below_alloc | apply pw_below_drewN | apply below_drew1 | refine below_set ?_ (IsS176.ge HI0.out)) | exact HB.out), by repeat (first | (with_reducible first | exact HK.out | apply KeepBut.set_ | apply keep_drewN | apply keep_drew | apply keep_alloc) | exact HK.out)⟩
end Go.Proofs.Ytiophiipmgpaeaa.F

namespace Go.Proofs.Ytiophiipmgpaeaa.F
open Go.RowKit Go.Proofs.YtiophiipmgpaeaaW.PrintWords Go.Proofs.YtiophiipmgpaeaaW.PrintLast Go.Proofs.YtiophiipmgpaeaaW.PrintMore
attribute [local go_sem] max2_int min2_int max_two min_two max_three min_three max_four min_four
set_option linter.unusedVariables false
set_option linter.unusedSimpArgs false
def spec_l6Draw.f (s0_0 : List Int) (s0_1 : Int) (s0_2 : Int) : Option (Int × Int × Int × Int) := (spec_l1Below.f s0_0 s0_1 s0_2 15).bind fun bt1414 => ((spec_l1Below.f s0_0 bt1414.2.1 bt1414.2.2 25).bind fun bt1417 => ((spec_l1Int.f s0_0 bt1417.2.1 bt1417.2.2 (([wrap64 (2 * (wrap64 (bt1414.1 - 7))), wrap64 (Int.tdiv (wrap64 (12 * (wrap64 (bt1414.1 - 7)))) 7), wrap64 ((wrap64 (bt1414.1 - 7)) + (wrap64 (Int.tdiv (wrap64 (bt1414.1 - 7)) 2))), wrap64 (bt1417.1 - 12)] : List Int))).bind fun bt1423 => (some (wrap64 (bt1414.1 - 7), bt1423.1, bt1423.2.1, bt1423.2.2))))
set_option maxHeartbeats 8000000 in
set_option maxRecDepth 100000 in
theorem spec_l6Draw.calls (g : Nat) (s0_0 : List Int) (s0_1 : Int) (s0_2 : Int) (r1 : Int) (r2 : Int) (r3 : Int) (r4 : Int) (w0 w : World) (hI : IsS176 w0 w g s0_0 s0_1 s0_2) (hB : Below w0.heap.size w0 w) (h : spec_l6Draw.f s0_0 s0_1 s0_2 = some (r1, r2, r3, r4)) :
  Calls Try.prog 162 #[.pointer (some ⟨g, 0, none⟩)] w fun e w' => e = .returned (.agg #[.int .i64 r1, .int .i64 r2]) ∧ IsS176 w0 w' g s0_0 r3 r4 ∧ Below w0.heap.size w0 w' ∧ KeepBut w w' g none := by
 have hu88 := Try.underlying88
 have HI0 := Aside0.mk hI
 have HK := Aside0.mk (KeepBut.refl w g none)
 have HL := Aside0.mk hB.size
 clear hI
 have HW0 := Aside0.mk hB.size
 have HB := Aside0.mk hB
 clear hB
 have H : ((spec_l1Below.f s0_0 s0_1 s0_2 15).bind fun bt1414 => ((spec_l1Below.f s0_0 bt1414.2.1 bt1414.2.2 25).bind fun bt1417 => ((spec_l1Int.f s0_0 bt1417.2.1 bt1417.2.2 (([wrap64 (2 * (wrap64 (bt1414.1 - 7))), wrap64 (Int.tdiv (wrap64 (12 * (wrap64 (bt1414.1 - 7)))) 7), wrap64 ((wrap64 (bt1414.1 - 7)) + (wrap64 (Int.tdiv (wrap64 (bt1414.1 - 7)) 2))), wrap64 (bt1417.1 - 12)] : List Int))).bind fun bt1423 => (some (wrap64 (bt1414.1 - 7), bt1423.1, bt1423.2.1, bt1423.2.2))))) = some (r1, r2, r3, r4) := h
 clear h
 replace H := Option.bind_eq_some_iff.mp H
 obtain ⟨⟨t1414, t1415, t1416⟩, A20, H⟩ := H
 try dsimp only at H
 have A2 := Aside0.mk A20
 clear A20
 replace H := Option.bind_eq_some_iff.mp H
 obtain ⟨⟨t1417, t1418, t1419⟩, A30, H⟩ := H
 try dsimp only at H
 have A3 := Aside0.mk A30
 clear A30
 obtain ⟨y1420, hy1420⟩ : ∃ y_ : List Int, y_ = (([wrap64 (2 * (wrap64 (t1414 - 7))), wrap64 (Int.tdiv (wrap64 (12 * (wrap64 (t1414 - 7)))) 7), wrap64 ((wrap64 (t1414 - 7)) + (wrap64 (Int.tdiv (wrap64 (t1414 - 7)) 2))), wrap64 (t1417 - 12)] : List Int)) := ⟨_, rfl⟩
 replace H : ((spec_l1Int.f s0_0 t1418 t1419 y1420).bind fun bt1423 => (some (wrap64 (t1414 - 7), bt1423.1, bt1423.2.1, bt1423.2.2))) = some (r1, r2, r3, r4) := by first | (rw [hy1420]; with_reducible exact H) | (have H2_ := (Option.bind_some _ _).symm.trans H; rw [hy1420]; with_reducible exact H2_) | (have H2_ := (Option.bind_some _ _).symm.trans H; with_reducible exact H2_) | with_reducible exact H | (rw [hy1420]; exact H) | exact H
 have Ny1420 := Aside0.mk hy1420
 clear hy1420
 replace H := Option.bind_eq_some_iff.mp H
 obtain ⟨⟨t1423, t1424, t1425⟩, A40, H⟩ := H
 try dsimp only at H
 have A4 := Aside0.mk A40
 clear A40
 simp only [Option.some.injEq, Prod.mk.injEq] at H
 obtain ⟨rfl, rfl, rfl, rfl⟩ := H
 go_enter Try.func162, Try.ntmps162
 go_wp2_with (first | ((with_reducible refine gate_dst (N := 2) rfl ?_); refine box_event ?hg (N := 2) ?hd (cs := #[.int .i64 0, .int .i64 0]) (t := 88) ?hr ?_; (case hd => rfl); (case hg => rfl); (case hr => first | (go_simp; done) | (go_simp; rfl)); intro gb1413 hg w5 hbox hb; have n0_ := Aside0.mk (IsS176.below (by repeat (first | (with_reducible first | exact HI0.out | apply IsS176.alloc | apply IsS176.drewN | apply IsS176.drew | apply IsS176.set_1 | apply IsS176.set_2) | exact HI0.out)) hb); have n1_ := Aside0.mk (KeepBut.trans (by repeat (first | (with_reducible first | exact HK.out | apply KeepBut.set_ | apply keep_drewN | apply keep_drew | apply keep_alloc) | exact HK.out)) (KeepBut.of_below hb g none) (.inl rfl)); have n2_ := Aside0.mk (below_step (by repeat (first | (with_reducible first | exact HB.out | apply below_alloc | apply pw_below_drewN | apply below_drew1 | refine below_set ?_ (IsS176.ge HI0.out)) | exact HB.out)) hb); have n3_ := Aside0.mk (hbox); have n4_ := Aside0.mk ((by rw [hg]; exact (keep_size (w := w) (g := g) (row := none) (by repeat (first | (with_reducible first | exact HK.out | apply KeepBut.set_ | apply keep_drewN | apply keep_drew | apply keep_alloc) | exact HK.out))) : w.heap.size ≤ gb1413)); have n5_ := Aside0.mk ((Nat.le_trans HW0.out (by rw [hg]; exact (keep_size (w := w) (g := g) (row := none) (by repeat (first | (with_reducible first | exact HK.out | apply KeepBut.set_ | apply keep_drewN | apply keep_drew | apply keep_alloc) | exact HK.out))) : w.heap.size ≤ gb1413) : w0.heap.size ≤ gb1413)); have n6_ := Aside0.mk ((by rw [hg]; exact Nat.ne_of_lt (IsS176.lt (show IsS176 w0 _ g s0_0 s0_1 s0_2 from by repeat (first | (with_reducible first | exact HI0.out | apply IsS176.alloc | apply IsS176.drewN | apply IsS176.drew | apply IsS176.set_1 | apply IsS176.set_2) | exact HI0.out))) : g ≠ gb1413)); have n7_ := Aside0.mk ((by rw [hg]; exact Nat.ne_of_gt (IsS176.lt (show IsS176 w0 _ g s0_0 s0_1 s0_2 from by repeat (first | (with_reducible first | exact HI0.out | apply IsS176.alloc | apply IsS176.drewN | apply IsS176.drew | apply IsS176.set_1 | apply IsS176.set_2) | exact HI0.out))) : gb1413 ≠ g)); clear HI0; clear HK; clear HB; have HI0 := n0_; have HK := n1_; have HB := n2_; have BK1413 := n3_; have GW1413 := n4_; have GE1413 := n5_; have NB0_1413 := n6_; have NB1413_0 := n7_; clear n0_ n1_ n2_ n3_ n4_ n5_ n6_ n7_; clear hb hbox hg) | ((with_reducible refine gate_callee (f := 121) rfl ?_); refine goesL_ (some 5) rfl rfl Try.func121 (by kernel_rfl) rfl #[.pointer (some ⟨g, 0, none⟩), .int .i64 15] rfl (by (try simp only [List.map_toArray, List.map_cons, List.map_nil]); first | done | rfl | (simp only [List.length_drop, List.length_take]; rfl)) ?_; (with_reducible refine (spec_l1Below.calls g s0_0 s0_1 s0_2 15 t1414 t1415 t1416 w0 _ ?side1 ?side2 A2.out).mono ?_); (case side1 => repeat (first | (with_reducible first | exact HI0.out | apply IsS176.alloc | apply IsS176.drewN | apply IsS176.drew | apply IsS176.set_1 | apply IsS176.set_2 | refine IsS176.far ?_ NB0_1413.out _) | exact HI0.out)); (case side2 => repeat (first | (with_reducible first | exact HB.out | apply below_alloc | apply pw_below_drewN | apply below_drew1 | refine below_set ?_ (IsS176.ge HI0.out) | refine below_set ?_ GE1413.out) | exact HB.out)); rintro e w6 ⟨rfl, hi, hb, hk⟩; refine ⟨_, rfl, ?_⟩; have n0_ := Aside0.mk (KeepBut.blk hk (g' := gb1413) (o := .cells #[.int .i64 0, .int .i64 0] 88 (0, 0)) (by (with_reducible repeat (first | refine blk_drewN ?_ _ | refine blk_drew ?_ | refine blk_alloc ?_ _)); exact BK1413.out) NB1413_0.out (by simp)); have n1_ := Aside0.mk (KeepBut.trans (by repeat (first | (with_reducible first | exact HK.out | apply KeepBut.set_ | apply keep_drewN | apply keep_drew | apply keep_alloc | refine keep_far ?_ GW1413.out _) | exact HK.out)) hk (.inl rfl)); have n2_ := Aside0.mk (hb); have n3_ := Aside0.mk (hi); clear BK1413; clear HK; clear HB; clear HI0; have BK1413 := n0_; have HK := n1_; have HB := n2_; have HI0 := n3_; clear n0_ n1_ n2_ n3_; (try clear hb); (try clear hb2); (try clear hk); (try clear hi)) | ((with_reducible refine gate_callee (f := 121) rfl ?_); refine goesL_ (some 19) rfl rfl Try.func121 (by kernel_rfl) rfl #[.pointer (some ⟨g, 0, none⟩), .int .i64 25] rfl (by (try simp only [List.map_toArray, List.map_cons, List.map_nil]); first | done | rfl | (simp only [List.length_drop, List.length_take]; rfl)) ?_; (with_reducible refine (spec_l1Below.calls g s0_0 t1415 t1416 25 t1417 t1418 t1419 w0 _ ?side1 ?side2 A3.out).mono ?_); (case side1 => repeat (first | (with_reducible first | exact HI0.out | apply IsS176.alloc | apply IsS176.drewN | apply IsS176.drew | apply IsS176.set_1 | apply IsS176.set_2 | refine IsS176.far ?_ NB0_1413.out _) | exact HI0.out)); (case side2 => repeat (first | (with_reducible first | exact HB.out | apply below_alloc | apply pw_below_drewN | apply below_drew1 | refine below_set ?_ (IsS176.ge HI0.out) | refine below_set ?_ GE1413.out) | exact HB.out)); rintro e w7 ⟨rfl, hi, hb, hk⟩; refine ⟨_, rfl, ?_⟩; have n0_ := Aside0.mk (KeepBut.blk hk (g' := gb1413) (o := .cells #[.int .i64 0, .int .i64 0] 88 (0, 0)) (by (with_reducible repeat (first | refine blk_drewN ?_ _ | refine blk_drew ?_ | refine blk_alloc ?_ _)); exact BK1413.out) NB1413_0.out (by simp)); have n1_ := Aside0.mk (KeepBut.trans (by repeat (first | (with_reducible first | exact HK.out | apply KeepBut.set_ | apply keep_drewN | apply keep_drew | apply keep_alloc | refine keep_far ?_ GW1413.out _) | exact HK.out)) hk (.inl rfl)); have n2_ := Aside0.mk (hb); have n3_ := Aside0.mk (hi); clear BK1413; clear HK; clear HB; clear HI0; have BK1413 := n0_; have HK := n1_; have HB := n2_; have HI0 := n3_; clear n0_ n1_ n2_ n3_; (try clear hb); (try clear hb2); (try clear hk); (try clear hi)) | ((with_reducible refine gate_dst (N := 21) rfl ?_); refine Kd.R_lit (Kd.int .i64) _ 3 ?hg (N := 21) ?hd (xs := ([wrap64 (2 * (wrap64 (t1414 - 7))), wrap64 (Int.tdiv (wrap64 (12 * (wrap64 (t1414 - 7)))) 7), wrap64 ((wrap64 (t1414 - 7)) + (wrap64 (Int.tdiv (wrap64 (t1414 - 7)) 2))), wrap64 (t1417 - 12)] : List Int)) (inner := [.int .i64 (wrap64 (2 * (wrap64 (t1414 - 7)))), .int .i64 (wrap64 (Int.tdiv (wrap64 (12 * (wrap64 (t1414 - 7)))) 7)), .int .i64 (wrap64 ((wrap64 (t1414 - 7)) + (wrap64 (Int.tdiv (wrap64 (t1414 - 7)) 2)))), .int .i64 (wrap64 (t1417 - 12))]) (ok := fun _ => True) (okp := fun _ => True) ?hr ?hp (fun _ hk => hk) trivial (Below.refl _ _) (Nat.le_refl _) (by simp) ?_; (case hd => rfl); (case hg => rfl); (case hr => first | (go_simp; done) | (go_simp; rfl)); (case hp => exact (Reps.one (show Kd.M (Kd.int .i64) _ _ _ (wrap64 (2 * (wrap64 (t1414 - 7)))) [.int .i64 (wrap64 (2 * (wrap64 (t1414 - 7))))] from rfl) (Reps.one (show Kd.M (Kd.int .i64) _ _ _ (wrap64 (Int.tdiv (wrap64 (12 * (wrap64 (t1414 - 7)))) 7)) [.int .i64 (wrap64 (Int.tdiv (wrap64 (12 * (wrap64 (t1414 - 7)))) 7))] from rfl) (Reps.one (show Kd.M (Kd.int .i64) _ _ _ (wrap64 ((wrap64 (t1414 - 7)) + (wrap64 (Int.tdiv (wrap64 (t1414 - 7)) 2)))) [.int .i64 (wrap64 ((wrap64 (t1414 - 7)) + (wrap64 (Int.tdiv (wrap64 (t1414 - 7)) 2))))] from rfl) (Reps.one (show Kd.M (Kd.int .i64) _ _ _ (wrap64 (t1417 - 12)) [.int .i64 (wrap64 (t1417 - 12))] from rfl) (Reps.none _ _)))))); intro v1421 w8 ho9 hb hg_ hnew_; clear hg_ hnew_; (first | rw [← Ny1420.out] at ho9 | (simp only [Int.reduceToNat] at ho9; rw [← Ny1420.out] at ho9)); have n0_ := Aside0.mk (Kd.R_lower ho9 (keep_size (w := w) (g := g) (row := none) (by repeat (first | (with_reducible first | exact HK.out | apply KeepBut.set_ | apply keep_drewN | apply keep_drew | apply keep_alloc | refine keep_far ?_ GW1413.out _) | exact HK.out)))); have n1_ := Aside0.mk (IsS176.below (by repeat (first | (with_reducible first | exact HI0.out | apply IsS176.alloc | apply IsS176.drewN | apply IsS176.drew | apply IsS176.set_1 | apply IsS176.set_2 | refine IsS176.far ?_ NB0_1413.out _) | exact HI0.out)) hb); have n2_ := Aside0.mk (blk_below (g := gb1413) (o := .cells #[.int .i64 0, .int .i64 0] 88 (0, 0)) (by (with_reducible repeat (first | refine blk_drewN ?_ _ | refine blk_drew ?_ | refine blk_alloc ?_ _)); exact BK1413.out) hb); have n3_ := Aside0.mk (KeepBut.trans (by repeat (first | (with_reducible first | exact HK.out | apply KeepBut.set_ | apply keep_drewN | apply keep_drew | apply keep_alloc | refine keep_far ?_ GW1413.out _) | exact HK.out)) (KeepBut.of_below hb g none) (.inl rfl)); have n4_ := Aside0.mk (below_step (by repeat (first | (with_reducible first | exact HB.out | apply below_alloc | apply pw_below_drewN | apply below_drew1 | refine below_set ?_ (IsS176.ge HI0.out) | refine below_set ?_ GE1413.out) | exact HB.out)) hb); clear HI0; clear BK1413; clear HK; clear HB; have HO1422 := n0_; have HI0 := n1_; have BK1413 := n2_; have HK := n3_; have HB := n4_; clear n0_ n1_ n2_ n3_ n4_; clear hb ho9; obtain ⟨Ao10, co10, eo10⟩ := Kd.R_slice HO1422.out; subst eo10) | ((with_reducible refine gate_callee (f := 131) rfl ?_); refine goesL_ (some 22) rfl rfl Try.func131 (by kernel_rfl) rfl #[.pointer (some ⟨g, 0, none⟩), .slice Ao10 y1420.length co10] rfl (by (try simp only [List.map_toArray, List.map_cons, List.map_nil]); first | done | rfl | (simp only [List.length_drop, List.length_take]; rfl)) ?_; (with_reducible refine (spec_l1Int.calls g s0_0 t1418 t1419 _ _ y1420 t1423 t1424 t1425 w0 _ ?side1 ?side2 ?side3 ?side4 ?side5 A4.out).mono ?_); (case side1 => repeat (first | (with_reducible first | exact HI0.out | apply IsS176.alloc | apply IsS176.drewN | apply IsS176.drew | apply IsS176.set_1 | apply IsS176.set_2 | refine IsS176.far ?_ NB0_1413.out _) | exact HI0.out)); (case side2 => repeat (first | (with_reducible first | exact HB.out | apply below_alloc | apply pw_below_drewN | apply below_drew1 | refine below_set ?_ (IsS176.ge HI0.out) | refine below_set ?_ GE1413.out) | exact HB.out)); (case side3 => repeat (first | exact (Kd.R_reads' HO1422.out).2.2 | (with_reducible refine Kd.C_alloc ?_ _) | (with_reducible refine Kd.C_drewN ?_ _) | (with_reducible refine Kd.C_drew ?_))); (case side4 => exact (Kd.R_reads' HO1422.out).2.1); (case side5 => exact far_slice (IsS176.own_ne HI0.out HO1422.out (by decide))); rintro e w11 ⟨rfl, hi, hb, hk⟩; refine ⟨_, rfl, ?_⟩; have n0_ := Aside0.mk (KeepBut.blk hk (g' := gb1413) (o := .cells #[.int .i64 0, .int .i64 0] 88 (0, 0)) (by (with_reducible repeat (first | refine blk_drewN ?_ _ | refine blk_drew ?_ | refine blk_alloc ?_ _)); exact BK1413.out) NB1413_0.out (by simp)); have n1_ := Aside0.mk (Kd.R_mono (Kd.R_keep (IsS176.apart (show IsS176 w0 _ g s0_0 t1418 t1419 from by repeat (first | (with_reducible first | exact HI0.out | apply IsS176.alloc | apply IsS176.drewN | apply IsS176.drew | apply IsS176.set_1 | apply IsS176.set_2 | refine IsS176.far ?_ NB0_1413.out _) | exact HI0.out)) (by (with_reducible repeat (first | apply Kd.R_alloc | apply Kd.R_drewN | apply Kd.R_drew)); exact HO1422.out) (by decide)) hk (fun _ h => h.2)) (fun _ h => h.1)); have n2_ := Aside0.mk (KeepBut.trans (by repeat (first | (with_reducible first | exact HK.out | apply KeepBut.set_ | apply keep_drewN | apply keep_drew | apply keep_alloc | refine keep_far ?_ GW1413.out _) | exact HK.out)) hk (.inl rfl)); have n3_ := Aside0.mk (hb); have n4_ := Aside0.mk (hi); clear BK1413; clear HO1422; clear HK; clear HB; clear HI0; have BK1413 := n0_; have HO1422 := n1_; have HK := n2_; have HB := n3_; have HI0 := n4_; clear n0_ n1_ n2_ n3_ n4_; (try clear hb); (try clear hb2); (try clear hk); (try clear hi); have hnb12 := NB1413_0.out; have hnc12 := NB0_1413.out; have hcz13_0 : w11.cell? ⟨gb1413, 0, none⟩ = some (.int .i64 0) := (blk_cell BK1413.out 0).trans rfl; have hcz13_1 : w11.cell? ⟨gb1413, 1, none⟩ = some (.int .i64 0) := (blk_cell BK1413.out 1).trans rfl; have hfz13_0 := blk_frozen BK1413.out 0; have hfz13_1 := blk_frozen BK1413.out 1))
 refine bodyPost_ret (results_cell_row rfl _ _ gb1413 88 #[.int .i64 (wrap64 (t1414 - 7)), .int .i64 t1423] (0, 0) _ rfl (by (with_reducible repeat (first | refine blk_drewN ?_ _ | refine blk_drew ?_ | refine blk_alloc ?_ _)); refine blk_put (cs := #[.int .i64 (wrap64 (t1414 - 7)), .int .i64 0]) ?_ 1 _ rfl; (with_reducible repeat (first | refine blk_drewN ?_ _ | refine blk_drew ?_ | refine blk_alloc ?_ _)); refine blk_put (cs := #[.int .i64 0, .int .i64 0]) ?_ 0 _ rfl; (with_reducible repeat (first | refine blk_drewN ?_ _ | refine blk_drew ?_ | refine blk_alloc ?_ _)); exact BK1413.out) Try.underlying88 rfl (by kernel_rfl)) rfl ?_
 exact ⟨by first | rfl | (simp [errW_none, errW_some] <;> rfl) | (simp [*, errW_none, errW_some] <;> rfl), by repeat (first | (with_reducible first | exact HI0.out | apply IsS176.alloc | apply IsS176.drewN | apply IsS176.drew | apply IsS176.set_1 | apply IsS176.set_2 | refine IsS176.far ?_ NB0_1413.out _) | exact HI0.out), by repeat (first | (with_reducible first | exact HB.out | apply below_alloc | apply pw_below_drewN | apply below_drew1 | refine below_set ?_ (IsS176.ge HI0.out) | refine below_set ?_ GE1413.out) | exact HB.out), by repeat (first | (with_reducible first | exact HK.out | apply KeepBut.set_ | apply keep_drewN | apply keep_drew | apply keep_alloc | refine keep_far ?_ GW1413.out _) | exact HK.out)⟩
end Go.Proofs.Ytiophiipmgpaeaa.F

namespace Go.Proofs.Ytiophiipmgpaeaa.F
open Go.RowKit Go.Proofs.YtiophiipmgpaeaaW.PrintWords Go.Proofs.YtiophiipmgpaeaaW.PrintLast Go.Proofs.YtiophiipmgpaeaaW.PrintMore
attribute [local go_sem] max2_int min2_int max_two min_two max_three min_three max_four min_four
set_option linter.unusedVariables false
set_option linter.unusedSimpArgs false
def spec_l4Raw.f (s0_0 : List Int) (s0_1 : Int) (s0_2 : Int) : Option (Int × Int × Int) := (spec_l1Int.f s0_0 s0_1 s0_2 (([(-1), 0, 1, 1000000000, (-1000000000), 1000000001, 1000000, 1000001, 9223372036854775807, (-9223372036854775808)] : List Int))).bind fun bt1429 => (some (bt1429.1, bt1429.2.1, bt1429.2.2))
set_option maxHeartbeats 8000000 in
set_option maxRecDepth 100000 in
theorem spec_l4Raw.calls (g : Nat) (s0_0 : List Int) (s0_1 : Int) (s0_2 : Int) (r1 : Int) (r2 : Int) (r3 : Int) (w0 w : World) (hI : IsS176 w0 w g s0_0 s0_1 s0_2) (hB : Below w0.heap.size w0 w) (h : spec_l4Raw.f s0_0 s0_1 s0_2 = some (r1, r2, r3)) :
  Calls Try.prog 163 #[.pointer (some ⟨g, 0, none⟩)] w fun e w' => e = .returned (.int .i64 r1) ∧ IsS176 w0 w' g s0_0 r2 r3 ∧ Below w0.heap.size w0 w' ∧ KeepBut w w' g none := by
 have HI0 := Aside0.mk hI
 have HK := Aside0.mk (KeepBut.refl w g none)
 have HL := Aside0.mk hB.size
 clear hI
 have HW0 := Aside0.mk hB.size
 have HB := Aside0.mk hB
 clear hB
 have H : ((spec_l1Int.f s0_0 s0_1 s0_2 (([(-1), 0, 1, 1000000000, (-1000000000), 1000000001, 1000000, 1000001, 9223372036854775807, (-9223372036854775808)] : List Int))).bind fun bt1429 => (some (bt1429.1, bt1429.2.1, bt1429.2.2))) = some (r1, r2, r3) := h
 clear h
 obtain ⟨y1426, hy1426⟩ : ∃ y_ : List Int, y_ = (([(-1), 0, 1, 1000000000, (-1000000000), 1000000001, 1000000, 1000001, 9223372036854775807, (-9223372036854775808)] : List Int)) := ⟨_, rfl⟩
 replace H : ((spec_l1Int.f s0_0 s0_1 s0_2 y1426).bind fun bt1429 => (some (bt1429.1, bt1429.2.1, bt1429.2.2))) = some (r1, r2, r3) := by first | (rw [hy1426]; with_reducible exact H) | (have H2_ := (Option.bind_some _ _).symm.trans H; rw [hy1426]; with_reducible exact H2_) | (have H2_ := (Option.bind_some _ _).symm.trans H; with_reducible exact H2_) | with_reducible exact H | (rw [hy1426]; exact H) | exact H
 have Ny1426 := Aside0.mk hy1426
 clear hy1426
 replace H := Option.bind_eq_some_iff.mp H
 obtain ⟨⟨t1429, t1430, t1431⟩, A20, H⟩ := H
 try dsimp only at H
 have A2 := Aside0.mk A20
 clear A20
 simp only [Option.some.injEq, Prod.mk.injEq] at H
 obtain ⟨rfl, rfl, rfl⟩ := H
 go_enter Try.func163, Try.ntmps163
 go_wp2_with (first | ((with_reducible refine gate_dst (N := 4) rfl ?_); refine Kd.R_lit (Kd.int .i64) _ 3 ?hg (N := 4) ?hd (xs := ([(-1), 0, 1, 1000000000, (-1000000000), 1000000001, 1000000, 1000001, 9223372036854775807, (-9223372036854775808)] : List Int)) (inner := [.int .i64 (-1), .int .i64 0, .int .i64 1, .int .i64 1000000000, .int .i64 (-1000000000), .int .i64 1000000001, .int .i64 1000000, .int .i64 1000001, .int .i64 9223372036854775807, .int .i64 (-9223372036854775808)]) (ok := fun _ => True) (okp := fun _ => True) ?hr ?hp (fun _ hk => hk) trivial (Below.refl _ _) (Nat.le_refl _) (by simp) ?_; (case hd => rfl); (case hg => rfl); (case hr => first | (go_simp; done) | (go_simp; rfl)); (case hp => exact (Reps.one (show Kd.M (Kd.int .i64) _ _ _ (-1) [.int .i64 (-1)] from rfl) (Reps.one (show Kd.M (Kd.int .i64) _ _ _ 0 [.int .i64 0] from rfl) (Reps.one (show Kd.M (Kd.int .i64) _ _ _ 1 [.int .i64 1] from rfl) (Reps.one (show Kd.M (Kd.int .i64) _ _ _ 1000000000 [.int .i64 1000000000] from rfl) (Reps.one (show Kd.M (Kd.int .i64) _ _ _ (-1000000000) [.int .i64 (-1000000000)] from rfl) (Reps.one (show Kd.M (Kd.int .i64) _ _ _ 1000000001 [.int .i64 1000000001] from rfl) (Reps.one (show Kd.M (Kd.int .i64) _ _ _ 1000000 [.int .i64 1000000] from rfl) (Reps.one (show Kd.M (Kd.int .i64) _ _ _ 1000001 [.int .i64 1000001] from rfl) (Reps.one (show Kd.M (Kd.int .i64) _ _ _ 9223372036854775807 [.int .i64 9223372036854775807] from rfl) (Reps.one (show Kd.M (Kd.int .i64) _ _ _ (-9223372036854775808) [.int .i64 (-9223372036854775808)] from rfl) (Reps.none _ _)))))))))))); intro v1427 w3 ho4 hb hg_ hnew_; clear hg_ hnew_; (first | rw [← Ny1426.out] at ho4 | (simp only [Int.reduceToNat] at ho4; rw [← Ny1426.out] at ho4)); have n0_ := Aside0.mk (Kd.R_lower ho4 (keep_size (w := w) (g := g) (row := none) (by repeat (first | (with_reducible first | exact HK.out | apply KeepBut.set_ | apply keep_drewN | apply keep_drew | apply keep_alloc) | exact HK.out)))); have n1_ := Aside0.mk (IsS176.below (by repeat (first | (with_reducible first | exact HI0.out | apply IsS176.alloc | apply IsS176.drewN | apply IsS176.drew | apply IsS176.set_1 | apply IsS176.set_2) | exact HI0.out)) hb); have n2_ := Aside0.mk (KeepBut.trans (by repeat (first | (with_reducible first | exact HK.out | apply KeepBut.set_ | apply keep_drewN | apply keep_drew | apply keep_alloc) | exact HK.out)) (KeepBut.of_below hb g none) (.inl rfl)); have n3_ := Aside0.mk (below_step (by repeat (first | (with_reducible first | exact HB.out | apply below_alloc | apply pw_below_drewN | apply below_drew1 | refine below_set ?_ (IsS176.ge HI0.out)) | exact HB.out)) hb); clear HI0; clear HK; clear HB; have HO1428 := n0_; have HI0 := n1_; have HK := n2_; have HB := n3_; clear n0_ n1_ n2_ n3_; clear hb ho4; obtain ⟨Ao5, co5, eo5⟩ := Kd.R_slice HO1428.out; subst eo5) | ((with_reducible refine gate_callee (f := 131) rfl ?_); refine goesL_ (some 5) rfl rfl Try.func131 (by kernel_rfl) rfl #[.pointer (some ⟨g, 0, none⟩), .slice Ao5 y1426.length co5] rfl (by (try simp only [List.map_toArray, List.map_cons, List.map_nil]); first | done | rfl | (simp only [List.length_drop, List.length_take]; rfl)) ?_; (with_reducible refine (spec_l1Int.calls g s0_0 s0_1 s0_2 _ _ y1426 t1429 t1430 t1431 w0 _ ?side1 ?side2 ?side3 ?side4 ?side5 A2.out).mono ?_); (case side1 => repeat (first | (with_reducible first | exact HI0.out | apply IsS176.alloc | apply IsS176.drewN | apply IsS176.drew | apply IsS176.set_1 | apply IsS176.set_2) | exact HI0.out)); (case side2 => repeat (first | (with_reducible first | exact HB.out | apply below_alloc | apply pw_below_drewN | apply below_drew1 | refine below_set ?_ (IsS176.ge HI0.out)) | exact HB.out)); (case side3 => repeat (first | exact (Kd.R_reads' HO1428.out).2.2 | (with_reducible refine Kd.C_alloc ?_ _) | (with_reducible refine Kd.C_drewN ?_ _) | (with_reducible refine Kd.C_drew ?_))); (case side4 => exact (Kd.R_reads' HO1428.out).2.1); (case side5 => exact far_slice (IsS176.own_ne HI0.out HO1428.out (by decide))); rintro e w6 ⟨rfl, hi, hb, hk⟩; refine ⟨_, rfl, ?_⟩; have n0_ := Aside0.mk (Kd.R_mono (Kd.R_keep (IsS176.apart (show IsS176 w0 _ g s0_0 s0_1 s0_2 from by repeat (first | (with_reducible first | exact HI0.out | apply IsS176.alloc | apply IsS176.drewN | apply IsS176.drew | apply IsS176.set_1 | apply IsS176.set_2) | exact HI0.out)) (by (with_reducible repeat (first | apply Kd.R_alloc | apply Kd.R_drewN | apply Kd.R_drew)); exact HO1428.out) (by decide)) hk (fun _ h => h.2)) (fun _ h => h.1)); have n1_ := Aside0.mk (KeepBut.trans (by repeat (first | (with_reducible first | exact HK.out | apply KeepBut.set_ | apply keep_drewN | apply keep_drew | apply keep_alloc) | exact HK.out)) hk (.inl rfl)); have n2_ := Aside0.mk (hb); have n3_ := Aside0.mk (hi); clear HO1428; clear HK; clear HB; clear HI0; have HO1428 := n0_; have HK := n1_; have HB := n2_; have HI0 := n3_; clear n0_ n1_ n2_ n3_; (try clear hb); (try clear hb2); (try clear hk); (try clear hi)))
 go_ret
 exact ⟨by first | rfl | (simp [errW_none, errW_some] <;> rfl) | (simp [*, errW_none, errW_some] <;> rfl), by repeat (first | (with_reducible first | exact HI0.out | apply IsS176.alloc | apply IsS176.drewN | apply IsS176.drew | apply IsS176.set_1 | apply IsS176.set_2) | exact HI0.out), by repeat (first | (with_reducible first | exact HB.out | apply below_alloc | apply pw_below_drewN | apply below_drew1 | refine below_set ?_ (IsS176.ge HI0.out)) | exact HB.out), by repeat (first | (with_reducible first | exact HK.out | apply KeepBut.set_ | apply keep_drewN | apply keep_drew | apply keep_alloc) | exact HK.out)⟩
end Go.Proofs.Ytiophiipmgpaeaa.F

namespace Go.Proofs.Ytiophiipmgpaeaa.F
open Go.RowKit Go.Proofs.YtiophiipmgpaeaaW.PrintWords Go.Proofs.YtiophiipmgpaeaaW.PrintLast Go.Proofs.YtiophiipmgpaeaaW.PrintMore
attribute [local go_sem] max2_int min2_int max_two min_two max_three min_three max_four min_four
set_option linter.unusedVariables false
set_option linter.unusedSimpArgs false
def spec_l6Any.f (s0_0 : List Int) (s0_1 : Int) (s0_2 : Int) : Option (Int × Int × Int × Int) := (spec_l6Draw.f s0_0 s0_1 s0_2).bind fun bt1433 => ((spec_l1Below.f s0_0 bt1433.2.2.1 bt1433.2.2.2 9).bind fun bt1438 => (if bt1438.1 = 0 then ((spec_l4Raw.f s0_0 bt1438.2.1 bt1438.2.2).bind fun bt1441 => (some (bt1441.1, bt1433.2.1, bt1441.2.1, bt1441.2.2))) else (if bt1438.1 = 1 then ((spec_l4Raw.f s0_0 bt1438.2.1 bt1438.2.2).bind fun bt1444 => (some (bt1433.1, bt1444.1, bt1444.2.1, bt1444.2.2))) else (some (bt1433.1, bt1433.2.1, bt1438.2.1, bt1438.2.2)))))
set_option maxHeartbeats 8000000 in
set_option maxRecDepth 100000 in
theorem spec_l6Any.calls (g : Nat) (s0_0 : List Int) (s0_1 : Int) (s0_2 : Int) (r1 : Int) (r2 : Int) (r3 : Int) (r4 : Int) (w0 w : World) (hI : IsS176 w0 w g s0_0 s0_1 s0_2) (hB : Below w0.heap.size w0 w) (h : spec_l6Any.f s0_0 s0_1 s0_2 = some (r1, r2, r3, r4)) :
  Calls Try.prog 126 #[.pointer (some ⟨g, 0, none⟩)] w fun e w' => e = .returned (.agg #[.int .i64 r1, .int .i64 r2]) ∧ IsS176 w0 w' g s0_0 r3 r4 ∧ Below w0.heap.size w0 w' ∧ KeepBut w w' g none := by
 have hu88 := Try.underlying88
 have HI0 := Aside0.mk hI
 have HK := Aside0.mk (KeepBut.refl w g none)
 have HL := Aside0.mk hB.size
 clear hI
 have HW0 := Aside0.mk hB.size
 have HB := Aside0.mk hB
 clear hB
 have H : ((spec_l6Draw.f s0_0 s0_1 s0_2).bind fun bt1433 => ((spec_l1Below.f s0_0 bt1433.2.2.1 bt1433.2.2.2 9).bind fun bt1438 => (if bt1438.1 = 0 then ((spec_l4Raw.f s0_0 bt1438.2.1 bt1438.2.2).bind fun bt1441 => (some (bt1441.1, bt1433.2.1, bt1441.2.1, bt1441.2.2))) else (if bt1438.1 = 1 then ((spec_l4Raw.f s0_0 bt1438.2.1 bt1438.2.2).bind fun bt1444 => (some (bt1433.1, bt1444.1, bt1444.2.1, bt1444.2.2))) else (some (bt1433.1, bt1433.2.1, bt1438.2.1, bt1438.2.2)))))) = some (r1, r2, r3, r4) := h
 clear h
 replace H := Option.bind_eq_some_iff.mp H
 obtain ⟨⟨t1433, t1434, t1435, t1436⟩, A20, H⟩ := H
 try dsimp only at H
 have A2 := Aside0.mk A20
 clear A20
 replace H := Option.bind_eq_some_iff.mp H
 obtain ⟨⟨t1438, t1439, t1440⟩, A30, H⟩ := H
 try dsimp only at H
 have A3 := Aside0.mk A30
 clear A30
 by_cases c4 : t1438 = 0
 ·
  rw [if_pos c4] at H
  have c4b0 : (t1438 == 0) = true := beq_iff_eq.mpr c4
  have c4b1 : (t1438 != 0) = false := bne_eq_false_iff_eq.mpr c4
  clear c4
  replace H := Option.bind_eq_some_iff.mp H
  obtain ⟨⟨t1441, t1442, t1443⟩, A50, H⟩ := H
  try dsimp only at H
  have A5 := Aside0.mk A50
  clear A50
  simp only [Option.some.injEq, Prod.mk.injEq] at H
  obtain ⟨rfl, rfl, rfl, rfl⟩ := H
  go_enter Try.func126, Try.ntmps126
  go_wp2_with (first | ((with_reducible refine gate_dst (N := 2) rfl ?_); refine box_event ?hg (N := 2) ?hd (cs := #[.int .i64 0, .int .i64 0]) (t := 88) ?hr ?_; (case hd => rfl); (case hg => rfl); (case hr => first | (go_simp; done) | (go_simp; rfl)); intro gb1432 hg w6 hbox hb; have n0_ := Aside0.mk (IsS176.below (by repeat (first | (with_reducible first | exact HI0.out | apply IsS176.alloc | apply IsS176.drewN | apply IsS176.drew | apply IsS176.set_1 | apply IsS176.set_2) | exact HI0.out)) hb); have n1_ := Aside0.mk (KeepBut.trans (by repeat (first | (with_reducible first | exact HK.out | apply KeepBut.set_ | apply keep_drewN | apply keep_drew | apply keep_alloc) | exact HK.out)) (KeepBut.of_below hb g none) (.inl rfl)); have n2_ := Aside0.mk (below_step (by repeat (first | (with_reducible first | exact HB.out | apply below_alloc | apply pw_below_drewN | apply below_drew1 | refine below_set ?_ (IsS176.ge HI0.out)) | exact HB.out)) hb); have n3_ := Aside0.mk (hbox); have n4_ := Aside0.mk ((by rw [hg]; exact (keep_size (w := w) (g := g) (row := none) (by repeat (first | (with_reducible first | exact HK.out | apply KeepBut.set_ | apply keep_drewN | apply keep_drew | apply keep_alloc) | exact HK.out))) : w.heap.size ≤ gb1432)); have n5_ := Aside0.mk ((Nat.le_trans HW0.out (by rw [hg]; exact (keep_size (w := w) (g := g) (row := none) (by repeat (first | (with_reducible first | exact HK.out | apply KeepBut.set_ | apply keep_drewN | apply keep_drew | apply keep_alloc) | exact HK.out))) : w.heap.size ≤ gb1432) : w0.heap.size ≤ gb1432)); have n6_ := Aside0.mk ((by rw [hg]; exact Nat.ne_of_lt (IsS176.lt (show IsS176 w0 _ g s0_0 s0_1 s0_2 from by repeat (first | (with_reducible first | exact HI0.out | apply IsS176.alloc | apply IsS176.drewN | apply IsS176.drew | apply IsS176.set_1 | apply IsS176.set_2) | exact HI0.out))) : g ≠ gb1432)); have n7_ := Aside0.mk ((by rw [hg]; exact Nat.ne_of_gt (IsS176.lt (show IsS176 w0 _ g s0_0 s0_1 s0_2 from by repeat (first | (with_reducible first | exact HI0.out | apply IsS176.alloc | apply IsS176.drewN | apply IsS176.drew | apply IsS176.set_1 | apply IsS176.set_2) | exact HI0.out))) : gb1432 ≠ g)); clear HI0; clear HK; clear HB; have HI0 := n0_; have HK := n1_; have HB := n2_; have BK1432 := n3_; have GW1432 := n4_; have GE1432 := n5_; have NB0_1432 := n6_; have NB1432_0 := n7_; clear n0_ n1_ n2_ n3_ n4_ n5_ n6_ n7_; clear hb hbox hg) | ((with_reducible refine gate_callee (f := 162) rfl ?_); refine goesL_ (some 5) rfl rfl Try.func162 (by kernel_rfl) rfl #[.pointer (some ⟨g, 0, none⟩)] rfl (by (try simp only [List.map_toArray, List.map_cons, List.map_nil]); first | done | rfl | (simp only [List.length_drop, List.length_take]; rfl)) ?_; (with_reducible refine (spec_l6Draw.calls g s0_0 s0_1 s0_2 t1433 t1434 t1435 t1436 w0 _ ?side1 ?side2 A2.out).mono ?_); (case side1 => repeat (first | (with_reducible first | exact HI0.out | apply IsS176.alloc | apply IsS176.drewN | apply IsS176.drew | apply IsS176.set_1 | apply IsS176.set_2 | refine IsS176.far ?_ NB0_1432.out _) | exact HI0.out)); (case side2 => repeat (first | (with_reducible first | exact HB.out | apply below_alloc | apply pw_below_drewN | apply below_drew1 | refine below_set ?_ (IsS176.ge HI0.out) | refine below_set ?_ GE1432.out) | exact HB.out)); rintro e w7 ⟨rfl, hi, hb, hk⟩; refine ⟨_, rfl, ?_⟩; have n0_ := Aside0.mk (KeepBut.blk hk (g' := gb1432) (o := .cells #[.int .i64 0, .int .i64 0] 88 (0, 0)) (by (with_reducible repeat (first | refine blk_drewN ?_ _ | refine blk_drew ?_ | refine blk_alloc ?_ _)); exact BK1432.out) NB1432_0.out (by simp)); have n1_ := Aside0.mk (KeepBut.trans (by repeat (first | (with_reducible first | exact HK.out | apply KeepBut.set_ | apply keep_drewN | apply keep_drew | apply keep_alloc | refine keep_far ?_ GW1432.out _) | exact HK.out)) hk (.inl rfl)); have n2_ := Aside0.mk (hb); have n3_ := Aside0.mk (hi); clear BK1432; clear HK; clear HB; clear HI0; have BK1432 := n0_; have HK := n1_; have HB := n2_; have HI0 := n3_; clear n0_ n1_ n2_ n3_; (try clear hb); (try clear hb2); (try clear hk); (try clear hi)) | ((with_reducible refine gate_dst (N := 3) rfl ?_); refine box_event ?hg (N := 3) ?hd (cs := #[.int .i64 0, .int .i64 0]) (t := 88) ?hr ?_; (case hd => rfl); (case hg => rfl); (case hr => first | (go_simp; done) | (go_simp; rfl)); intro gb1437 hg w8 hbox hb; have n0_ := Aside0.mk (IsS176.below (by repeat (first | (with_reducible first | exact HI0.out | apply IsS176.alloc | apply IsS176.drewN | apply IsS176.drew | apply IsS176.set_1 | apply IsS176.set_2 | refine IsS176.far ?_ NB0_1432.out _) | exact HI0.out)) hb); have n1_ := Aside0.mk (blk_below (g := gb1432) (o := .cells #[.int .i64 0, .int .i64 0] 88 (0, 0)) (by (with_reducible repeat (first | refine blk_drewN ?_ _ | refine blk_drew ?_ | refine blk_alloc ?_ _)); exact BK1432.out) hb); have n2_ := Aside0.mk (KeepBut.trans (by repeat (first | (with_reducible first | exact HK.out | apply KeepBut.set_ | apply keep_drewN | apply keep_drew | apply keep_alloc | refine keep_far ?_ GW1432.out _) | exact HK.out)) (KeepBut.of_below hb g none) (.inl rfl)); have n3_ := Aside0.mk (below_step (by repeat (first | (with_reducible first | exact HB.out | apply below_alloc | apply pw_below_drewN | apply below_drew1 | refine below_set ?_ (IsS176.ge HI0.out) | refine below_set ?_ GE1432.out) | exact HB.out)) hb); have n4_ := Aside0.mk (hbox); have n5_ := Aside0.mk ((by rw [hg]; exact (keep_size (w := w) (g := g) (row := none) (by repeat (first | (with_reducible first | exact HK.out | apply KeepBut.set_ | apply keep_drewN | apply keep_drew | apply keep_alloc | refine keep_far ?_ GW1432.out _) | exact HK.out))) : w.heap.size ≤ gb1437)); have n6_ := Aside0.mk ((Nat.le_trans HW0.out (by rw [hg]; exact (keep_size (w := w) (g := g) (row := none) (by repeat (first | (with_reducible first | exact HK.out | apply KeepBut.set_ | apply keep_drewN | apply keep_drew | apply keep_alloc | refine keep_far ?_ GW1432.out _) | exact HK.out))) : w.heap.size ≤ gb1437) : w0.heap.size ≤ gb1437)); have n7_ := Aside0.mk ((by rw [hg]; exact Nat.ne_of_lt (blk_lt (g := gb1432) (o := .cells #[.int .i64 0, .int .i64 0] 88 (0, 0)) (by (with_reducible repeat (first | refine blk_drewN ?_ _ | refine blk_drew ?_ | refine blk_alloc ?_ _)); exact BK1432.out)) : gb1432 ≠ gb1437)); have n8_ := Aside0.mk ((by rw [hg]; exact Nat.ne_of_gt (blk_lt (g := gb1432) (o := .cells #[.int .i64 0, .int .i64 0] 88 (0, 0)) (by (with_reducible repeat (first | refine blk_drewN ?_ _ | refine blk_drew ?_ | refine blk_alloc ?_ _)); exact BK1432.out)) : gb1437 ≠ gb1432)); have n9_ := Aside0.mk ((by rw [hg]; exact Nat.ne_of_lt (IsS176.lt (show IsS176 w0 _ g s0_0 t1435 t1436 from by repeat (first | (with_reducible first | exact HI0.out | apply IsS176.alloc | apply IsS176.drewN | apply IsS176.drew | apply IsS176.set_1 | apply IsS176.set_2 | refine IsS176.far ?_ NB0_1432.out _) | exact HI0.out))) : g ≠ gb1437)); have n10_ := Aside0.mk ((by rw [hg]; exact Nat.ne_of_gt (IsS176.lt (show IsS176 w0 _ g s0_0 t1435 t1436 from by repeat (first | (with_reducible first | exact HI0.out | apply IsS176.alloc | apply IsS176.drewN | apply IsS176.drew | apply IsS176.set_1 | apply IsS176.set_2 | refine IsS176.far ?_ NB0_1432.out _) | exact HI0.out))) : gb1437 ≠ g)); clear HI0; clear BK1432; clear HK; clear HB; have HI0 := n0_; have BK1432 := n1_; have HK := n2_; have HB := n3_; have BK1437 := n4_; have GW1437 := n5_; have GE1437 := n6_; have NB1432_1437 := n7_; have NB1437_1432 := n8_; have NB0_1437 := n9_; have NB1437_0 := n10_; clear n0_ n1_ n2_ n3_ n4_ n5_ n6_ n7_ n8_ n9_ n10_; clear hb hbox hg; have hnb9 := NB1437_1432.out; have hnc9 := NB1432_1437.out; have hnb10 := NB1437_0.out; have hnc10 := NB0_1437.out; have hcz11_0 : w8.cell? ⟨gb1437, 0, none⟩ = some (.int .i64 0) := (blk_cell BK1437.out 0).trans rfl; have hcz11_1 : w8.cell? ⟨gb1437, 1, none⟩ = some (.int .i64 0) := (blk_cell BK1437.out 1).trans rfl; have hfz11_0 := blk_frozen BK1437.out 0; have hfz11_1 := blk_frozen BK1437.out 1) | ((with_reducible refine gate_callee (f := 121) rfl ?_); refine goesL_ (some 7) rfl rfl Try.func121 (by kernel_rfl) rfl #[.pointer (some ⟨g, 0, none⟩), .int .i64 9] rfl (by (try simp only [List.map_toArray, List.map_cons, List.map_nil]); first | done | rfl | (simp only [List.length_drop, List.length_take]; rfl)) ?_; (with_reducible refine (spec_l1Below.calls g s0_0 t1435 t1436 9 t1438 t1439 t1440 w0 _ ?side1 ?side2 A3.out).mono ?_); (case side1 => repeat (first | (with_reducible first | exact HI0.out | apply IsS176.alloc | apply IsS176.drewN | apply IsS176.drew | apply IsS176.set_1 | apply IsS176.set_2 | refine IsS176.far ?_ NB0_1432.out _ | refine IsS176.far ?_ NB0_1437.out _) | exact HI0.out)); (case side2 => repeat (first | (with_reducible first | exact HB.out | apply below_alloc | apply pw_below_drewN | apply below_drew1 | refine below_set ?_ (IsS176.ge HI0.out) | refine below_set ?_ GE1432.out | refine below_set ?_ GE1437.out) | exact HB.out)); rintro e w12 ⟨rfl, hi, hb, hk⟩; refine ⟨_, rfl, ?_⟩; have n0_ := Aside0.mk (KeepBut.blk hk (g' := gb1432) (o := .cells #[.int .i64 0, .int .i64 0] 88 (0, 0)) (by (with_reducible repeat (first | refine blk_drewN ?_ _ | refine blk_drew ?_ | refine blk_alloc ?_ _)); refine blk_far ?_ NB1432_1437.out _; (with_reducible repeat (first | refine blk_drewN ?_ _ | refine blk_drew ?_ | refine blk_alloc ?_ _)); refine blk_far ?_ NB1432_1437.out _; (with_reducible repeat (first | refine blk_drewN ?_ _ | refine blk_drew ?_ | refine blk_alloc ?_ _)); exact BK1432.out) NB1432_0.out (by simp)); have n1_ := Aside0.mk (KeepBut.blk hk (g' := gb1437) (o := .cells #[.int .i64 t1433, .int .i64 t1434] 88 (0, 0)) (by (with_reducible repeat (first | refine blk_drewN ?_ _ | refine blk_drew ?_ | refine blk_alloc ?_ _)); refine blk_put (cs := #[.int .i64 t1433, .int .i64 0]) ?_ 1 _ rfl; (with_reducible repeat (first | refine blk_drewN ?_ _ | refine blk_drew ?_ | refine blk_alloc ?_ _)); refine blk_put (cs := #[.int .i64 0, .int .i64 0]) ?_ 0 _ rfl; (with_reducible repeat (first | refine blk_drewN ?_ _ | refine blk_drew ?_ | refine blk_alloc ?_ _)); exact BK1437.out) NB1437_0.out (by simp)); have n2_ := Aside0.mk (KeepBut.trans (by repeat (first | (with_reducible first | exact HK.out | apply KeepBut.set_ | apply keep_drewN | apply keep_drew | apply keep_alloc | refine keep_far ?_ GW1432.out _ | refine keep_far ?_ GW1437.out _) | exact HK.out)) hk (.inl rfl)); have n3_ := Aside0.mk (hb); have n4_ := Aside0.mk (hi); clear BK1432; clear BK1437; clear HK; clear HB; clear HI0; have BK1432 := n0_; have BK1437 := n1_; have HK := n2_; have HB := n3_; have HI0 := n4_; clear n0_ n1_ n2_ n3_ n4_; (try clear hb); (try clear hb2); (try clear hk); (try clear hi)) | ((with_reducible refine gate_callee (f := 163) rfl ?_); refine goesL_ (some 11) rfl rfl Try.func163 (by kernel_rfl) rfl #[.pointer (some ⟨g, 0, none⟩)] rfl (by (try simp only [List.map_toArray, List.map_cons, List.map_nil]); first | done | rfl | (simp only [List.length_drop, List.length_take]; rfl)) ?_; (with_reducible refine (spec_l4Raw.calls g s0_0 t1439 t1440 t1441 t1442 t1443 w0 _ ?side1 ?side2 A5.out).mono ?_); (case side1 => repeat (first | (with_reducible first | exact HI0.out | apply IsS176.alloc | apply IsS176.drewN | apply IsS176.drew | apply IsS176.set_1 | apply IsS176.set_2 | refine IsS176.far ?_ NB0_1432.out _ | refine IsS176.far ?_ NB0_1437.out _) | exact HI0.out)); (case side2 => repeat (first | (with_reducible first | exact HB.out | apply below_alloc | apply pw_below_drewN | apply below_drew1 | refine below_set ?_ (IsS176.ge HI0.out) | refine below_set ?_ GE1432.out | refine below_set ?_ GE1437.out) | exact HB.out)); rintro e w13 ⟨rfl, hi, hb, hk⟩; refine ⟨_, rfl, ?_⟩; have n0_ := Aside0.mk (KeepBut.blk hk (g' := gb1432) (o := .cells #[.int .i64 0, .int .i64 0] 88 (0, 0)) (by (with_reducible repeat (first | refine blk_drewN ?_ _ | refine blk_drew ?_ | refine blk_alloc ?_ _)); exact BK1432.out) NB1432_0.out (by simp)); have n1_ := Aside0.mk (KeepBut.blk hk (g' := gb1437) (o := .cells #[.int .i64 t1433, .int .i64 t1434] 88 (0, 0)) (by (with_reducible repeat (first | refine blk_drewN ?_ _ | refine blk_drew ?_ | refine blk_alloc ?_ _)); exact BK1437.out) NB1437_0.out (by simp)); have n2_ := Aside0.mk (KeepBut.trans (by repeat (first | (with_reducible first | exact HK.out | apply KeepBut.set_ | apply keep_drewN | apply keep_drew | apply keep_alloc | refine keep_far ?_ GW1432.out _ | refine keep_far ?_ GW1437.out _) | exact HK.out)) hk (.inl rfl)); have n3_ := Aside0.mk (hb); have n4_ := Aside0.mk (hi); clear BK1432; clear BK1437; clear HK; clear HB; clear HI0; have BK1432 := n0_; have BK1437 := n1_; have HK := n2_; have HB := n3_; have HI0 := n4_; clear n0_ n1_ n2_ n3_ n4_; (try clear hb); (try clear hb2); (try clear hk); (try clear hi); have hcz14_0 : w13.cell? ⟨gb1437, 0, none⟩ = some (.int .i64 t1433) := (blk_cell BK1437.out 0).trans rfl; have hcz14_1 : w13.cell? ⟨gb1437, 1, none⟩ = some (.int .i64 t1434) := (blk_cell BK1437.out 1).trans rfl; have hfz14_0 := blk_frozen BK1437.out 0; have hfz14_1 := blk_frozen BK1437.out 1; have hnb15 := NB1432_0.out; have hnc15 := NB0_1432.out; have hcz16_0 : w13.cell? ⟨gb1432, 0, none⟩ = some (.int .i64 0) := (blk_cell BK1432.out 0).trans rfl; have hcz16_1 : w13.cell? ⟨gb1432, 1, none⟩ = some (.int .i64 0) := (blk_cell BK1432.out 1).trans rfl; have hfz16_0 := blk_frozen BK1432.out 0; have hfz16_1 := blk_frozen BK1432.out 1))
  refine bodyPost_ret (results_cell_row rfl _ _ gb1432 88 #[.int .i64 t1441, .int .i64 t1434] (0, 0) _ rfl (by (with_reducible repeat (first | refine blk_drewN ?_ _ | refine blk_drew ?_ | refine blk_alloc ?_ _)); refine blk_put (cs := #[.int .i64 t1441, .int .i64 0]) ?_ 1 _ rfl; (with_reducible repeat (first | refine blk_drewN ?_ _ | refine blk_drew ?_ | refine blk_alloc ?_ _)); refine blk_put (cs := #[.int .i64 0, .int .i64 0]) ?_ 0 _ rfl; (with_reducible repeat (first | refine blk_drewN ?_ _ | refine blk_drew ?_ | refine blk_alloc ?_ _)); refine blk_far ?_ NB1432_1437.out _; (with_reducible repeat (first | refine blk_drewN ?_ _ | refine blk_drew ?_ | refine blk_alloc ?_ _)); exact BK1432.out) Try.underlying88 rfl (by kernel_rfl)) rfl ?_
  exact ⟨by first | rfl | (simp [errW_none, errW_some] <;> rfl) | (simp [*, errW_none, errW_some] <;> rfl), by repeat (first | (with_reducible first | exact HI0.out | apply IsS176.alloc | apply IsS176.drewN | apply IsS176.drew | apply IsS176.set_1 | apply IsS176.set_2 | refine IsS176.far ?_ NB0_1432.out _ | refine IsS176.far ?_ NB0_1437.out _) | exact HI0.out), by repeat (first | (with_reducible first | exact HB.out | apply below_alloc | apply pw_below_drewN | apply below_drew1 | refine below_set ?_ (IsS176.ge HI0.out) | refine below_set ?_ GE1432.out | refine below_set ?_ GE1437.out) | exact HB.out), by repeat (first | (with_reducible first | exact HK.out | apply KeepBut.set_ | apply keep_drewN | apply keep_drew | apply keep_alloc | refine keep_far ?_ GW1432.out _ | refine keep_far ?_ GW1437.out _) | exact HK.out)⟩
 ·
  rw [if_neg c4] at H
  have c4b0 : (t1438 == 0) = false := beq_eq_false_iff_ne.mpr c4
  have c4b1 : (t1438 != 0) = true := bne_iff_ne.mpr c4
  by_cases c17 : t1438 = 1
  ·
   rw [if_pos c17] at H
   have c17b0 : (t1438 == 1) = true := beq_iff_eq.mpr c17
   have c17b1 : (t1438 != 1) = false := bne_eq_false_iff_eq.mpr c17
   clear c17
   replace H := Option.bind_eq_some_iff.mp H
   obtain ⟨⟨t1444, t1445, t1446⟩, A180, H⟩ := H
   try dsimp only at H
   have A18 := Aside0.mk A180
   clear A180
   simp only [Option.some.injEq, Prod.mk.injEq] at H
   obtain ⟨rfl, rfl, rfl, rfl⟩ := H
   go_enter Try.func126, Try.ntmps126
   go_wp2_with (first | ((with_reducible refine gate_dst (N := 2) rfl ?_); refine box_event ?hg (N := 2) ?hd (cs := #[.int .i64 0, .int .i64 0]) (t := 88) ?hr ?_; (case hd => rfl); (case hg => rfl); (case hr => first | (go_simp; done) | (go_simp; rfl)); intro gb1432 hg w19 hbox hb; have n0_ := Aside0.mk (IsS176.below (by repeat (first | (with_reducible first | exact HI0.out | apply IsS176.alloc | apply IsS176.drewN | apply IsS176.drew | apply IsS176.set_1 | apply IsS176.set_2) | exact HI0.out)) hb); have n1_ := Aside0.mk (KeepBut.trans (by repeat (first | (with_reducible first | exact HK.out | apply KeepBut.set_ | apply keep_drewN | apply keep_drew | apply keep_alloc) | exact HK.out)) (KeepBut.of_below hb g none) (.inl rfl)); have n2_ := Aside0.mk (below_step (by repeat (first | (with_reducible first | exact HB.out | apply below_alloc | apply pw_below_drewN | apply below_drew1 | refine below_set ?_ (IsS176.ge HI0.out)) | exact HB.out)) hb); have n3_ := Aside0.mk (hbox); have n4_ := Aside0.mk ((by rw [hg]; exact (keep_size (w := w) (g := g) (row := none) (by repeat (first | (with_reducible first | exact HK.out | apply KeepBut.set_ | apply keep_drewN | apply keep_drew | apply keep_alloc) | exact HK.out))) : w.heap.size ≤ gb1432)); have n5_ := Aside0.mk ((Nat.le_trans HW0.out (by rw [hg]; exact (keep_size (w := w) (g := g) (row := none) (by repeat (first | (with_reducible first | exact HK.out | apply KeepBut.set_ | apply keep_drewN | apply keep_drew | apply keep_alloc) | exact HK.out))) : w.heap.size ≤ gb1432) : w0.heap.size ≤ gb1432)); have n6_ := Aside0.mk ((by rw [hg]; exact Nat.ne_of_lt (IsS176.lt (show IsS176 w0 _ g s0_0 s0_1 s0_2 from by repeat (first | (with_reducible first | exact HI0.out | apply IsS176.alloc | apply IsS176.drewN | apply IsS176.drew | apply IsS176.set_1 | apply IsS176.set_2) | exact HI0.out))) : g ≠ gb1432)); have n7_ := Aside0.mk ((by rw [hg]; exact Nat.ne_of_gt (IsS176.lt (show IsS176 w0 _ g s0_0 s0_1 s0_2 from by repeat (first | (with_reducible first | exact HI0.out | apply IsS176.alloc | apply IsS176.drewN | apply IsS176.drew | apply IsS176.set_1 | apply IsS176.set_2) | exact HI0.out))) : gb1432 ≠ g)); clear HI0; clear HK; clear HB; have HI0 := n0_; have HK := n1_; have HB := n2_; have BK1432 := n3_; have GW1432 := n4_; have GE1432 := n5_; have NB0_1432 := n6_; have NB1432_0 := n7_; clear n0_ n1_ n2_ n3_ n4_ n5_ n6_ n7_; clear hb hbox hg) | ((with_reducible refine gate_callee (f := 162) rfl ?_); refine goesL_ (some 5) rfl rfl Try.func162 (by kernel_rfl) rfl #[.pointer (some ⟨g, 0, none⟩)] rfl (by (try simp only [List.map_toArray, List.map_cons, List.map_nil]); first | done | rfl | (simp only [List.length_drop, List.length_take]; rfl)) ?_; (with_reducible refine (spec_l6Draw.calls g s0_0 s0_1 s0_2 t1433 t1434 t1435 t1436 w0 _ ?side1 ?side2 A2.out).mono ?_); (case side1 => repeat (first | (with_reducible first | exact HI0.out | apply IsS176.alloc | apply IsS176.drewN | apply IsS176.drew | apply IsS176.set_1 | apply IsS176.set_2 | refine IsS176.far ?_ NB0_1432.out _) | exact HI0.out)); (case side2 => repeat (first | (with_reducible first | exact HB.out | apply below_alloc | apply pw_below_drewN | apply below_drew1 | refine below_set ?_ (IsS176.ge HI0.out) | refine below_set ?_ GE1432.out) | exact HB.out)); rintro e w20 ⟨rfl, hi, hb, hk⟩; refine ⟨_, rfl, ?_⟩; have n0_ := Aside0.mk (KeepBut.blk hk (g' := gb1432) (o := .cells #[.int .i64 0, .int .i64 0] 88 (0, 0)) (by (with_reducible repeat (first | refine blk_drewN ?_ _ | refine blk_drew ?_ | refine blk_alloc ?_ _)); exact BK1432.out) NB1432_0.out (by simp)); have n1_ := Aside0.mk (KeepBut.trans (by repeat (first | (with_reducible first | exact HK.out | apply KeepBut.set_ | apply keep_drewN | apply keep_drew | apply keep_alloc | refine keep_far ?_ GW1432.out _) | exact HK.out)) hk (.inl rfl)); have n2_ := Aside0.mk (hb); have n3_ := Aside0.mk (hi); clear BK1432; clear HK; clear HB; clear HI0; have BK1432 := n0_; have HK := n1_; have HB := n2_; have HI0 := n3_; clear n0_ n1_ n2_ n3_; (try clear hb); (try clear hb2); (try clear hk); (try clear hi)) | ((with_reducible refine gate_dst (N := 3) rfl ?_); refine box_event ?hg (N := 3) ?hd (cs := #[.int .i64 0, .int .i64 0]) (t := 88) ?hr ?_; (case hd => rfl); (case hg => rfl); (case hr => first | (go_simp; done) | (go_simp; rfl)); intro gb1437 hg w21 hbox hb; have n0_ := Aside0.mk (IsS176.below (by repeat (first | (with_reducible first | exact HI0.out | apply IsS176.alloc | apply IsS176.drewN | apply IsS176.drew | apply IsS176.set_1 | apply IsS176.set_2 | refine IsS176.far ?_ NB0_1432.out _) | exact HI0.out)) hb); have n1_ := Aside0.mk (blk_below (g := gb1432) (o := .cells #[.int .i64 0, .int .i64 0] 88 (0, 0)) (by (with_reducible repeat (first | refine blk_drewN ?_ _ | refine blk_drew ?_ | refine blk_alloc ?_ _)); exact BK1432.out) hb); have n2_ := Aside0.mk (KeepBut.trans (by repeat (first | (with_reducible first | exact HK.out | apply KeepBut.set_ | apply keep_drewN | apply keep_drew | apply keep_alloc | refine keep_far ?_ GW1432.out _) | exact HK.out)) (KeepBut.of_below hb g none) (.inl rfl)); have n3_ := Aside0.mk (below_step (by repeat (first | (with_reducible first | exact HB.out | apply below_alloc | apply pw_below_drewN | apply below_drew1 | refine below_set ?_ (IsS176.ge HI0.out) | refine below_set ?_ GE1432.out) | exact HB.out)) hb); have n4_ := Aside0.mk (hbox); have n5_ := Aside0.mk ((by rw [hg]; exact (keep_size (w := w) (g := g) (row := none) (by repeat (first | (with_reducible first | exact HK.out | apply KeepBut.set_ | apply keep_drewN | apply keep_drew | apply keep_alloc | refine keep_far ?_ GW1432.out _) | exact HK.out))) : w.heap.size ≤ gb1437)); have n6_ := Aside0.mk ((Nat.le_trans HW0.out (by rw [hg]; exact (keep_size (w := w) (g := g) (row := none) (by repeat (first | (with_reducible first | exact HK.out | apply KeepBut.set_ | apply keep_drewN | apply keep_drew | apply keep_alloc | refine keep_far ?_ GW1432.out _) | exact HK.out))) : w.heap.size ≤ gb1437) : w0.heap.size ≤ gb1437)); have n7_ := Aside0.mk ((by rw [hg]; exact Nat.ne_of_lt (blk_lt (g := gb1432) (o := .cells #[.int .i64 0, .int .i64 0] 88 (0, 0)) (by (with_reducible repeat (first | refine blk_drewN ?_ _ | refine blk_drew ?_ | refine blk_alloc ?_ _)); exact BK1432.out)) : gb1432 ≠ gb1437)); have n8_ := Aside0.mk ((by rw [hg]; exact Nat.ne_of_gt (blk_lt (g := gb1432) (o := .cells #[.int .i64 0, .int .i64 0] 88 (0, 0)) (by (with_reducible repeat (first | refine blk_drewN ?_ _ | refine blk_drew ?_ | refine blk_alloc ?_ _)); exact BK1432.out)) : gb1437 ≠ gb1432)); have n9_ := Aside0.mk ((by rw [hg]; exact Nat.ne_of_lt (IsS176.lt (show IsS176 w0 _ g s0_0 t1435 t1436 from by repeat (first | (with_reducible first | exact HI0.out | apply IsS176.alloc | apply IsS176.drewN | apply IsS176.drew | apply IsS176.set_1 | apply IsS176.set_2 | refine IsS176.far ?_ NB0_1432.out _) | exact HI0.out))) : g ≠ gb1437)); have n10_ := Aside0.mk ((by rw [hg]; exact Nat.ne_of_gt (IsS176.lt (show IsS176 w0 _ g s0_0 t1435 t1436 from by repeat (first | (with_reducible first | exact HI0.out | apply IsS176.alloc | apply IsS176.drewN | apply IsS176.drew | apply IsS176.set_1 | apply IsS176.set_2 | refine IsS176.far ?_ NB0_1432.out _) | exact HI0.out))) : gb1437 ≠ g)); clear HI0; clear BK1432; clear HK; clear HB; have HI0 := n0_; have BK1432 := n1_; have HK := n2_; have HB := n3_; have BK1437 := n4_; have GW1437 := n5_; have GE1437 := n6_; have NB1432_1437 := n7_; have NB1437_1432 := n8_; have NB0_1437 := n9_; have NB1437_0 := n10_; clear n0_ n1_ n2_ n3_ n4_ n5_ n6_ n7_ n8_ n9_ n10_; clear hb hbox hg; have hnb22 := NB1437_1432.out; have hnc22 := NB1432_1437.out; have hnb23 := NB1437_0.out; have hnc23 := NB0_1437.out; have hcz24_0 : w21.cell? ⟨gb1437, 0, none⟩ = some (.int .i64 0) := (blk_cell BK1437.out 0).trans rfl; have hcz24_1 : w21.cell? ⟨gb1437, 1, none⟩ = some (.int .i64 0) := (blk_cell BK1437.out 1).trans rfl; have hfz24_0 := blk_frozen BK1437.out 0; have hfz24_1 := blk_frozen BK1437.out 1) | ((with_reducible refine gate_callee (f := 121) rfl ?_); refine goesL_ (some 7) rfl rfl Try.func121 (by kernel_rfl) rfl #[.pointer (some ⟨g, 0, none⟩), .int .i64 9] rfl (by (try simp only [List.map_toArray, List.map_cons, List.map_nil]); first | done | rfl | (simp only [List.length_drop, List.length_take]; rfl)) ?_; (with_reducible refine (spec_l1Below.calls g s0_0 t1435 t1436 9 t1438 t1439 t1440 w0 _ ?side1 ?side2 A3.out).mono ?_); (case side1 => repeat (first | (with_reducible first | exact HI0.out | apply IsS176.alloc | apply IsS176.drewN | apply IsS176.drew | apply IsS176.set_1 | apply IsS176.set_2 | refine IsS176.far ?_ NB0_1432.out _ | refine IsS176.far ?_ NB0_1437.out _) | exact HI0.out)); (case side2 => repeat (first | (with_reducible first | exact HB.out | apply below_alloc | apply pw_below_drewN | apply below_drew1 | refine below_set ?_ (IsS176.ge HI0.out) | refine below_set ?_ GE1432.out | refine below_set ?_ GE1437.out) | exact HB.out)); rintro e w25 ⟨rfl, hi, hb, hk⟩; refine ⟨_, rfl, ?_⟩; have n0_ := Aside0.mk (KeepBut.blk hk (g' := gb1432) (o := .cells #[.int .i64 0, .int .i64 0] 88 (0, 0)) (by (with_reducible repeat (first | refine blk_drewN ?_ _ | refine blk_drew ?_ | refine blk_alloc ?_ _)); refine blk_far ?_ NB1432_1437.out _; (with_reducible repeat (first | refine blk_drewN ?_ _ | refine blk_drew ?_ | refine blk_alloc ?_ _)); refine blk_far ?_ NB1432_1437.out _; (with_reducible repeat (first | refine blk_drewN ?_ _ | refine blk_drew ?_ | refine blk_alloc ?_ _)); exact BK1432.out) NB1432_0.out (by simp)); have n1_ := Aside0.mk (KeepBut.blk hk (g' := gb1437) (o := .cells #[.int .i64 t1433, .int .i64 t1434] 88 (0, 0)) (by (with_reducible repeat (first | refine blk_drewN ?_ _ | refine blk_drew ?_ | refine blk_alloc ?_ _)); refine blk_put (cs := #[.int .i64 t1433, .int .i64 0]) ?_ 1 _ rfl; (with_reducible repeat (first | refine blk_drewN ?_ _ | refine blk_drew ?_ | refine blk_alloc ?_ _)); refine blk_put (cs := #[.int .i64 0, .int .i64 0]) ?_ 0 _ rfl; (with_reducible repeat (first | refine blk_drewN ?_ _ | refine blk_drew ?_ | refine blk_alloc ?_ _)); exact BK1437.out) NB1437_0.out (by simp)); have n2_ := Aside0.mk (KeepBut.trans (by repeat (first | (with_reducible first | exact HK.out | apply KeepBut.set_ | apply keep_drewN | apply keep_drew | apply keep_alloc | refine keep_far ?_ GW1432.out _ | refine keep_far ?_ GW1437.out _) | exact HK.out)) hk (.inl rfl)); have n3_ := Aside0.mk (hb); have n4_ := Aside0.mk (hi); clear BK1432; clear BK1437; clear HK; clear HB; clear HI0; have BK1432 := n0_; have BK1437 := n1_; have HK := n2_; have HB := n3_; have HI0 := n4_; clear n0_ n1_ n2_ n3_ n4_; (try clear hb); (try clear hb2); (try clear hk); (try clear hi)) | ((with_reducible refine gate_callee (f := 163) rfl ?_); refine goesL_ (some 16) rfl rfl Try.func163 (by kernel_rfl) rfl #[.pointer (some ⟨g, 0, none⟩)] rfl (by (try simp only [List.map_toArray, List.map_cons, List.map_nil]); first | done | rfl | (simp only [List.length_drop, List.length_take]; rfl)) ?_; (with_reducible refine (spec_l4Raw.calls g s0_0 t1439 t1440 t1444 t1445 t1446 w0 _ ?side1 ?side2 A18.out).mono ?_); (case side1 => repeat (first | (with_reducible first | exact HI0.out | apply IsS176.alloc | apply IsS176.drewN | apply IsS176.drew | apply IsS176.set_1 | apply IsS176.set_2 | refine IsS176.far ?_ NB0_1432.out _ | refine IsS176.far ?_ NB0_1437.out _) | exact HI0.out)); (case side2 => repeat (first | (with_reducible first | exact HB.out | apply below_alloc | apply pw_below_drewN | apply below_drew1 | refine below_set ?_ (IsS176.ge HI0.out) | refine below_set ?_ GE1432.out | refine below_set ?_ GE1437.out) | exact HB.out)); rintro e w26 ⟨rfl, hi, hb, hk⟩; refine ⟨_, rfl, ?_⟩; have n0_ := Aside0.mk (KeepBut.blk hk (g' := gb1432) (o := .cells #[.int .i64 0, .int .i64 0] 88 (0, 0)) (by (with_reducible repeat (first | refine blk_drewN ?_ _ | refine blk_drew ?_ | refine blk_alloc ?_ _)); exact BK1432.out) NB1432_0.out (by simp)); have n1_ := Aside0.mk (KeepBut.blk hk (g' := gb1437) (o := .cells #[.int .i64 t1433, .int .i64 t1434] 88 (0, 0)) (by (with_reducible repeat (first | refine blk_drewN ?_ _ | refine blk_drew ?_ | refine blk_alloc ?_ _)); exact BK1437.out) NB1437_0.out (by simp)); have n2_ := Aside0.mk (KeepBut.trans (by repeat (first | (with_reducible first | exact HK.out | apply KeepBut.set_ | apply keep_drewN | apply keep_drew | apply keep_alloc | refine keep_far ?_ GW1432.out _ | refine keep_far ?_ GW1437.out _) | exact HK.out)) hk (.inl rfl)); have n3_ := Aside0.mk (hb); have n4_ := Aside0.mk (hi); clear BK1432; clear BK1437; clear HK; clear HB; clear HI0; have BK1432 := n0_; have BK1437 := n1_; have HK := n2_; have HB := n3_; have HI0 := n4_; clear n0_ n1_ n2_ n3_ n4_; (try clear hb); (try clear hb2); (try clear hk); (try clear hi); have hcz27_0 : w26.cell? ⟨gb1437, 0, none⟩ = some (.int .i64 t1433) := (blk_cell BK1437.out 0).trans rfl; have hcz27_1 : w26.cell? ⟨gb1437, 1, none⟩ = some (.int .i64 t1434) := (blk_cell BK1437.out 1).trans rfl; have hfz27_0 := blk_frozen BK1437.out 0; have hfz27_1 := blk_frozen BK1437.out 1; have hnb28 := NB1432_0.out; have hnc28 := NB0_1432.out; have hcz29_0 : w26.cell? ⟨gb1432, 0, none⟩ = some (.int .i64 0) := (blk_cell BK1432.out 0).trans rfl; have hcz29_1 : w26.cell? ⟨gb1432, 1, none⟩ = some (.int .i64 0) := (blk_cell BK1432.out 1).trans rfl; have hfz29_0 := blk_frozen BK1432.out 0; have hfz29_1 := blk_frozen BK1432.out 1))
   refine bodyPost_ret (results_cell_row rfl _ _ gb1432 88 #[.int .i64 t1433, .int .i64 t1444] (0, 0) _ rfl (by (with_reducible repeat (first | refine blk_drewN ?_ _ | refine blk_drew ?_ | refine blk_alloc ?_ _)); refine blk_put (cs := #[.int .i64 t1433, .int .i64 0]) ?_ 1 _ rfl; (with_reducible repeat (first | refine blk_drewN ?_ _ | refine blk_drew ?_ | refine blk_alloc ?_ _)); refine blk_put (cs := #[.int .i64 0, .int .i64 0]) ?_ 0 _ rfl; (with_reducible repeat (first | refine blk_drewN ?_ _ | refine blk_drew ?_ | refine blk_alloc ?_ _)); refine blk_far ?_ NB1432_1437.out _; (with_reducible repeat (first | refine blk_drewN ?_ _ | refine blk_drew ?_ | refine blk_alloc ?_ _)); exact BK1432.out) Try.underlying88 rfl (by kernel_rfl)) rfl ?_
   exact ⟨by first | rfl | (simp [errW_none, errW_some] <;> rfl) | (simp [*, errW_none, errW_some] <;> rfl), by repeat (first | (with_reducible first | exact HI0.out | apply IsS176.alloc | apply IsS176.drewN | apply IsS176.drew | apply IsS176.set_1 | apply IsS176.set_2 | refine IsS176.far ?_ NB0_1432.out _ | refine IsS176.far ?_ NB0_1437.out _) | exact HI0.out), by repeat (first | (with_reducible first | exact HB.out | apply below_alloc | apply pw_below_drewN | apply below_drew1 | refine below_set ?_ (IsS176.ge HI0.out) | refine below_set ?_ GE1432.out | refine below_set ?_ GE1437.out) | exact HB.out), by repeat (first | (with_reducible first | exact HK.out | apply KeepBut.set_ | apply keep_drewN | apply keep_drew | apply keep_alloc | refine keep_far ?_ GW1432.out _ | refine keep_far ?_ GW1437.out _) | exact HK.out)⟩
  ·
   rw [if_neg c17] at H
   have c17b0 : (t1438 == 1) = false := beq_eq_false_iff_ne.mpr c17
   have c17b1 : (t1438 != 1) = true := bne_iff_ne.mpr c17
   simp only [Option.some.injEq, Prod.mk.injEq] at H
   obtain ⟨rfl, rfl, rfl, rfl⟩ := H
   go_enter Try.func126, Try.ntmps126
   go_wp2_with (first | ((with_reducible refine gate_dst (N := 2) rfl ?_); refine box_event ?hg (N := 2) ?hd (cs := #[.int .i64 0, .int .i64 0]) (t := 88) ?hr ?_; (case hd => rfl); (case hg => rfl); (case hr => first | (go_simp; done) | (go_simp; rfl)); intro gb1432 hg w30 hbox hb; have n0_ := Aside0.mk (IsS176.below (by repeat (first | (with_reducible first | exact HI0.out | apply IsS176.alloc | apply IsS176.drewN | apply IsS176.drew | apply IsS176.set_1 | apply IsS176.set_2) | exact HI0.out)) hb); have n1_ := Aside0.mk (KeepBut.trans (by repeat (first | (with_reducible first | exact HK.out | apply KeepBut.set_ | apply keep_drewN | apply keep_drew | apply keep_alloc) | exact HK.out)) (KeepBut.of_below hb g none) (.inl rfl)); have n2_ := Aside0.mk (below_step (by repeat (first | (with_reducible first | exact HB.out | apply below_alloc | apply pw_below_drewN | apply below_drew1 | refine below_set ?_ (IsS176.ge HI0.out)) | exact HB.out)) hb); have n3_ := Aside0.mk (hbox); have n4_ := Aside0.mk ((by rw [hg]; exact (keep_size (w := w) (g := g) (row := none) (by repeat (first | (with_reducible first | exact HK.out | apply KeepBut.set_ | apply keep_drewN | apply keep_drew | apply keep_alloc) | exact HK.out))) : w.heap.size ≤ gb1432)); have n5_ := Aside0.mk ((Nat.le_trans HW0.out (by rw [hg]; exact (keep_size (w := w) (g := g) (row := none) (by repeat (first | (with_reducible first | exact HK.out | apply KeepBut.set_ | apply keep_drewN | apply keep_drew | apply keep_alloc) | exact HK.out))) : w.heap.size ≤ gb1432) : w0.heap.size ≤ gb1432)); have n6_ := Aside0.mk ((by rw [hg]; exact Nat.ne_of_lt (IsS176.lt (show IsS176 w0 _ g s0_0 s0_1 s0_2 from by repeat (first | (with_reducible first | exact HI0.out | apply IsS176.alloc | apply IsS176.drewN | apply IsS176.drew | apply IsS176.set_1 | apply IsS176.set_2) | exact HI0.out))) : g ≠ gb1432)); have n7_ := Aside0.mk ((by rw [hg]; exact Nat.ne_of_gt (IsS176.lt (show IsS176 w0 _ g s0_0 s0_1 s0_2 from by repeat (first | (with_reducible first | exact HI0.out | apply IsS176.alloc | apply IsS176.drewN | apply IsS176.drew | apply IsS176.set_1 | apply IsS176.set_2) | exact HI0.out))) : gb1432 ≠ g)); clear HI0; clear HK; clear HB; have HI0 := n0_; have HK := n1_; have HB := n2_; have BK1432 := n3_; have GW1432 := n4_; have GE1432 := n5_; have NB0_1432 := n6_; have NB1432_0 := n7_; clear n0_ n1_ n2_ n3_ n4_ n5_ n6_ n7_; clear hb hbox hg) | ((with_reducible refine gate_callee (f := 162) rfl ?_); refine goesL_ (some 5) rfl rfl Try.func162 (by kernel_rfl) rfl #[.pointer (some ⟨g, 0, none⟩)] rfl (by (try simp only [List.map_toArray, List.map_cons, List.map_nil]); first | done | rfl | (simp only [List.length_drop, List.length_take]; rfl)) ?_; (with_reducible refine (spec_l6Draw.calls g s0_0 s0_1 s0_2 t1433 t1434 t1435 t1436 w0 _ ?side1 ?side2 A2.out).mono ?_); (case side1 => repeat (first | (with_reducible first | exact HI0.out | apply IsS176.alloc | apply IsS176.drewN | apply IsS176.drew | apply IsS176.set_1 | apply IsS176.set_2 | refine IsS176.far ?_ NB0_1432.out _) | exact HI0.out)); (case side2 => repeat (first | (with_reducible first | exact HB.out | apply below_alloc | apply pw_below_drewN | apply below_drew1 | refine below_set ?_ (IsS176.ge HI0.out) | refine below_set ?_ GE1432.out) | exact HB.out)); rintro e w31 ⟨rfl, hi, hb, hk⟩; refine ⟨_, rfl, ?_⟩; have n0_ := Aside0.mk (KeepBut.blk hk (g' := gb1432) (o := .cells #[.int .i64 0, .int .i64 0] 88 (0, 0)) (by (with_reducible repeat (first | refine blk_drewN ?_ _ | refine blk_drew ?_ | refine blk_alloc ?_ _)); exact BK1432.out) NB1432_0.out (by simp)); have n1_ := Aside0.mk (KeepBut.trans (by repeat (first | (with_reducible first | exact HK.out | apply KeepBut.set_ | apply keep_drewN | apply keep_drew | apply keep_alloc | refine keep_far ?_ GW1432.out _) | exact HK.out)) hk (.inl rfl)); have n2_ := Aside0.mk (hb); have n3_ := Aside0.mk (hi); clear BK1432; clear HK; clear HB; clear HI0; have BK1432 := n0_; have HK := n1_; have HB := n2_; have HI0 := n3_; clear n0_ n1_ n2_ n3_; (try clear hb); (try clear hb2); (try clear hk); (try clear hi)) | ((with_reducible refine gate_dst (N := 3) rfl ?_); refine box_event ?hg (N := 3) ?hd (cs := #[.int .i64 0, .int .i64 0]) (t := 88) ?hr ?_; (case hd => rfl); (case hg => rfl); (case hr => first | (go_simp; done) | (go_simp; rfl)); intro gb1437 hg w32 hbox hb; have n0_ := Aside0.mk (IsS176.below (by repeat (first | (with_reducible first | exact HI0.out | apply IsS176.alloc | apply IsS176.drewN | apply IsS176.drew | apply IsS176.set_1 | apply IsS176.set_2 | refine IsS176.far ?_ NB0_1432.out _) | exact HI0.out)) hb); have n1_ := Aside0.mk (blk_below (g := gb1432) (o := .cells #[.int .i64 0, .int .i64 0] 88 (0, 0)) (by (with_reducible repeat (first | refine blk_drewN ?_ _ | refine blk_drew ?_ | refine blk_alloc ?_ _)); exact BK1432.out) hb); have n2_ := Aside0.mk (KeepBut.trans (by repeat (first | (with_reducible first | exact HK.out | apply KeepBut.set_ | apply keep_drewN | apply keep_drew | apply keep_alloc | refine keep_far ?_ GW1432.out _) | exact HK.out)) (KeepBut.of_below hb g none) (.inl rfl)); have n3_ := Aside0.mk (below_step (by repeat (first | (with_reducible first | exact HB.out | apply below_alloc | apply pw_below_drewN | apply below_drew1 | refine below_set ?_ (IsS176.ge HI0.out) | refine below_set ?_ GE1432.out) | exact HB.out)) hb); have n4_ := Aside0.mk (hbox); have n5_ := Aside0.mk ((by rw [hg]; exact (keep_size (w := w) (g := g) (row := none) (by repeat (first | (with_reducible first | exact HK.out | apply KeepBut.set_ | apply keep_drewN | apply keep_drew | apply keep_alloc | refine keep_far ?_ GW1432.out _) | exact HK.out))) : w.heap.size ≤ gb1437)); have n6_ := Aside0.mk ((Nat.le_trans HW0.out (by rw [hg]; exact (keep_size (w := w) (g := g) (row := none) (by repeat (first | (with_reducible first | exact HK.out | apply KeepBut.set_ | apply keep_drewN | apply keep_drew | apply keep_alloc | refine keep_far ?_ GW1432.out _) | exact HK.out))) : w.heap.size ≤ gb1437) : w0.heap.size ≤ gb1437)); have n7_ := Aside0.mk ((by rw [hg]; exact Nat.ne_of_lt (blk_lt (g := gb1432) (o := .cells #[.int .i64 0, .int .i64 0] 88 (0, 0)) (by (with_reducible repeat (first | refine blk_drewN ?_ _ | refine blk_drew ?_ | refine blk_alloc ?_ _)); exact BK1432.out)) : gb1432 ≠ gb1437)); have n8_ := Aside0.mk ((by rw [hg]; exact Nat.ne_of_gt (blk_lt (g := gb1432) (o := .cells #[.int .i64 0, .int .i64 0] 88 (0, 0)) (by (with_reducible repeat (first | refine blk_drewN ?_ _ | refine blk_drew ?_ | refine blk_alloc ?_ _)); exact BK1432.out)) : gb1437 ≠ gb1432)); have n9_ := Aside0.mk ((by rw [hg]; exact Nat.ne_of_lt (IsS176.lt (show IsS176 w0 _ g s0_0 t1435 t1436 from by repeat (first | (with_reducible first | exact HI0.out | apply IsS176.alloc | apply IsS176.drewN | apply IsS176.drew | apply IsS176.set_1 | apply IsS176.set_2 | refine IsS176.far ?_ NB0_1432.out _) | exact HI0.out))) : g ≠ gb1437)); have n10_ := Aside0.mk ((by rw [hg]; exact Nat.ne_of_gt (IsS176.lt (show IsS176 w0 _ g s0_0 t1435 t1436 from by repeat (first | (with_reducible first | exact HI0.out | apply IsS176.alloc | apply IsS176.drewN | apply IsS176.drew | apply IsS176.set_1 | apply IsS176.set_2 | refine IsS176.far ?_ NB0_1432.out _) | exact HI0.out))) : gb1437 ≠ g)); clear HI0; clear BK1432; clear HK; clear HB; have HI0 := n0_; have BK1432 := n1_; have HK := n2_; have HB := n3_; have BK1437 := n4_; have GW1437 := n5_; have GE1437 := n6_; have NB1432_1437 := n7_; have NB1437_1432 := n8_; have NB0_1437 := n9_; have NB1437_0 := n10_; clear n0_ n1_ n2_ n3_ n4_ n5_ n6_ n7_ n8_ n9_ n10_; clear hb hbox hg; have hnb33 := NB1437_1432.out; have hnc33 := NB1432_1437.out; have hnb34 := NB1437_0.out; have hnc34 := NB0_1437.out; have hcz35_0 : w32.cell? ⟨gb1437, 0, none⟩ = some (.int .i64 0) := (blk_cell BK1437.out 0).trans rfl; have hcz35_1 : w32.cell? ⟨gb1437, 1, none⟩ = some (.int .i64 0) := (blk_cell BK1437.out 1).trans rfl; have hfz35_0 := blk_frozen BK1437.out 0; have hfz35_1 := blk_frozen BK1437.out 1) | ((with_reducible refine gate_callee (f := 121) rfl ?_); refine goesL_ (some 7) rfl rfl Try.func121 (by kernel_rfl) rfl #[.pointer (some ⟨g, 0, none⟩), .int .i64 9] rfl (by (try simp only [List.map_toArray, List.map_cons, List.map_nil]); first | done | rfl | (simp only [List.length_drop, List.length_take]; rfl)) ?_; (with_reducible refine (spec_l1Below.calls g s0_0 t1435 t1436 9 t1438 t1439 t1440 w0 _ ?side1 ?side2 A3.out).mono ?_); (case side1 => repeat (first | (with_reducible first | exact HI0.out | apply IsS176.alloc | apply IsS176.drewN | apply IsS176.drew | apply IsS176.set_1 | apply IsS176.set_2 | refine IsS176.far ?_ NB0_1432.out _ | refine IsS176.far ?_ NB0_1437.out _) | exact HI0.out)); (case side2 => repeat (first | (with_reducible first | exact HB.out | apply below_alloc | apply pw_below_drewN | apply below_drew1 | refine below_set ?_ (IsS176.ge HI0.out) | refine below_set ?_ GE1432.out | refine below_set ?_ GE1437.out) | exact HB.out)); rintro e w36 ⟨rfl, hi, hb, hk⟩; refine ⟨_, rfl, ?_⟩; have n0_ := Aside0.mk (KeepBut.blk hk (g' := gb1432) (o := .cells #[.int .i64 0, .int .i64 0] 88 (0, 0)) (by (with_reducible repeat (first | refine blk_drewN ?_ _ | refine blk_drew ?_ | refine blk_alloc ?_ _)); refine blk_far ?_ NB1432_1437.out _; (with_reducible repeat (first | refine blk_drewN ?_ _ | refine blk_drew ?_ | refine blk_alloc ?_ _)); refine blk_far ?_ NB1432_1437.out _; (with_reducible repeat (first | refine blk_drewN ?_ _ | refine blk_drew ?_ | refine blk_alloc ?_ _)); exact BK1432.out) NB1432_0.out (by simp)); have n1_ := Aside0.mk (KeepBut.blk hk (g' := gb1437) (o := .cells #[.int .i64 t1433, .int .i64 t1434] 88 (0, 0)) (by (with_reducible repeat (first | refine blk_drewN ?_ _ | refine blk_drew ?_ | refine blk_alloc ?_ _)); refine blk_put (cs := #[.int .i64 t1433, .int .i64 0]) ?_ 1 _ rfl; (with_reducible repeat (first | refine blk_drewN ?_ _ | refine blk_drew ?_ | refine blk_alloc ?_ _)); refine blk_put (cs := #[.int .i64 0, .int .i64 0]) ?_ 0 _ rfl; (with_reducible repeat (first | refine blk_drewN ?_ _ | refine blk_drew ?_ | refine blk_alloc ?_ _)); exact BK1437.out) NB1437_0.out (by simp)); have n2_ := Aside0.mk (KeepBut.trans (by repeat (first | (with_reducible first | exact HK.out | apply KeepBut.set_ | apply keep_drewN | apply keep_drew | apply keep_alloc | refine keep_far ?_ GW1432.out _ | refine keep_far ?_ GW1437.out _) | exact HK.out)) hk (.inl rfl)); have n3_ := Aside0.mk (hb); have n4_ := Aside0.mk (hi); clear BK1432; clear BK1437; clear HK; clear HB; clear HI0; have BK1432 := n0_; have BK1437 := n1_; have HK := n2_; have HB := n3_; have HI0 := n4_; clear n0_ n1_ n2_ n3_ n4_; (try clear hb); (try clear hb2); (try clear hk); (try clear hi); have hcz37_0 : w36.cell? ⟨gb1437, 0, none⟩ = some (.int .i64 t1433) := (blk_cell BK1437.out 0).trans rfl; have hcz37_1 : w36.cell? ⟨gb1437, 1, none⟩ = some (.int .i64 t1434) := (blk_cell BK1437.out 1).trans rfl; have hfz37_0 := blk_frozen BK1437.out 0; have hfz37_1 := blk_frozen BK1437.out 1; have hnb38 := NB1432_0.out; have hnc38 := NB0_1432.out; have hcz39_0 : w36.cell? ⟨gb1432, 0, none⟩ = some (.int .i64 0) := (blk_cell BK1432.out 0).trans rfl; have hcz39_1 : w36.cell? ⟨gb1432, 1, none⟩ = some (.int .i64 0) := (blk_cell BK1432.out 1).trans rfl; have hfz39_0 := blk_frozen BK1432.out 0; have hfz39_1 := blk_frozen BK1432.out 1))
   refine bodyPost_ret (results_cell_row rfl _ _ gb1432 88 #[.int .i64 t1433, .int .i64 t1434] (0, 0) _ rfl (by (with_reducible repeat (first | refine blk_drewN ?_ _ | refine blk_drew ?_ | refine blk_alloc ?_ _)); refine blk_put (cs := #[.int .i64 t1433, .int .i64 0]) ?_ 1 _ rfl; (with_reducible repeat (first | refine blk_drewN ?_ _ | refine blk_drew ?_ | refine blk_alloc ?_ _)); refine blk_put (cs := #[.int .i64 0, .int .i64 0]) ?_ 0 _ rfl; (with_reducible repeat (first | refine blk_drewN ?_ _ | refine blk_drew ?_ | refine blk_alloc ?_ _)); exact BK1432.out) Try.underlying88 rfl (by kernel_rfl)) rfl ?_
   exact ⟨by first | rfl | (simp [errW_none, errW_some] <;> rfl) | (simp [*, errW_none, errW_some] <;> rfl), by repeat (first | (with_reducible first | exact HI0.out | apply IsS176.alloc | apply IsS176.drewN | apply IsS176.drew | apply IsS176.set_1 | apply IsS176.set_2 | refine IsS176.far ?_ NB0_1432.out _ | refine IsS176.far ?_ NB0_1437.out _) | exact HI0.out), by repeat (first | (with_reducible first | exact HB.out | apply below_alloc | apply pw_below_drewN | apply below_drew1 | refine below_set ?_ (IsS176.ge HI0.out) | refine below_set ?_ GE1432.out | refine below_set ?_ GE1437.out) | exact HB.out), by repeat (first | (with_reducible first | exact HK.out | apply KeepBut.set_ | apply keep_drewN | apply keep_drew | apply keep_alloc | refine keep_far ?_ GW1432.out _ | refine keep_far ?_ GW1437.out _) | exact HK.out)⟩
end Go.Proofs.Ytiophiipmgpaeaa.F
