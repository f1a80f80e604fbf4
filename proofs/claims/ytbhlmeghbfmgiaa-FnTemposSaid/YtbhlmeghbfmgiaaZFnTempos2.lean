/- FnTempos, part 2 of 6: texts of the claim, joined into one file. -/
import Derived.Test.YtbhlmeghbfmgiaaZFnTempos1
import Derived.Test.YtbhlmeghbfmgiaaProg
import Derived.Below
import Derived.Deep.Draws
import Derived.Deep.AppendLies
import Derived.Maps.AppendAt
import Derived.OwnWalk
import Derived.Laws.BytesArg
import Derived.Laws.MakeOwn
import Derived.Laws.OwnMore
import Derived.Deep.OwnRows
import Derived.Tactics
import Derived.Lib.ConvBytes
import Derived.Laws.Slices
import Derived.WalkKit
import Derived.KernelRfl
import Derived.RowKit3
import Derived.Deep.LoopGhost
import Derived.Deep.QuietTactic
import Derived.BigQuiet
import Derived.WideLaws
import Derived.Deep.DeepCutAuto
import Derived.Deep.CutBlock
import Derived.Deep.RegionHeld3
import Derived.Laws.Rows
import Derived.Lib.AppendStr
import Derived.ArgAppend
import Derived.Laws.IdiomCopy
import Derived.OrdersHeld
import Derived.Laws.BitsLemmas
import Derived.RowKit

namespace Go.Proofs.Ytbhlmeghbfmgiaa.F
open Go.RowKit Go.Proofs.YtbhlmeghbfmgiaaW.PrintWords Go.Proofs.YtbhlmeghbfmgiaaW.PrintLast Go.Proofs.YtbhlmeghbfmgiaaW.PrintMore
attribute [local go_sem] max2_int min2_int max_two min_two max_three min_three max_four min_four
set_option linter.unusedVariables false
set_option linter.unusedSimpArgs false
def errW : Option Int → Value
 | none => .nilIface
 | some c => .iface 0 (.int .i64 c)
theorem errW_none : errW none = .nilIface := rfl
theorem errW_some (c : Int) : errW (some c) = .iface 0 (.int .i64 c) := rfl
theorem info151 : (Try.prog.info? 151).map (fun i => (i.zero, i.size, i.bytes)) = some (some (.agg #[(.int .i64 0), (.int .i64 0)]), 2, 16) := by kernel_rfl
structure S26 where
 f0 : Int
 f1 : Int
 f2 : Int
 f3 : Int
structure S151 where
 f0 : Int
 f1 : Int
def z151 : S151 := ⟨(0 : Int), (0 : Int)⟩
def k151 : Kd S151 := Kd.iso (Kd.pair (Kd.int .i64) (Kd.int .i64)) (fun x : S151 => (x.f0, x.f1))
theorem k151_open {w : World} {x : S151} {cs : List Value} (h : k151.K w x cs) : cs = [.int .i64 x.f0, .int .i64 x.f1] := by
 obtain ⟨_, _, rfl, rfl, rfl⟩ := h
 exact rfl
theorem k151_openM {w : World} {base : Nat} {ok : Nat → Prop} {x : S151} {cs : List Value} (h : k151.M w base ok x cs) : cs = [.int .i64 x.f0, .int .i64 x.f1] := by
 obtain ⟨_, _, rfl, rfl, rfl⟩ := h
 exact rfl
theorem k151_mkM (w : World) (base : Nat) (ok : Nat → Prop) (x : S151)  : k151.M w base ok x [.int .i64 x.f0, .int .i64 x.f1] := ⟨[.int .i64 x.f0], [.int .i64 x.f1], rfl, rfl, rfl⟩
def rd_T151 (xs : List S151) (i : Int) : S151 := xs.getD i.toNat z151
theorem at_T151 {w : World} {A : Option Addr} {n : Nat} {xs : List S151} (h : Kd.C k151 w A n xs) (i : Int) (h0 : 0 ≤ i) (h1 : i < n) : ∃ ad , A = some ad ∧ w.cell? (ad.add (i.toNat * 2)) = some (.int .i64 (rd_T151 xs i).f0) ∧ w.cell? ⟨(ad.add (i.toNat * 2)).block, (ad.add (i.toNat * 2)).off + 1, none⟩ = some (.int .i64 (rd_T151 xs i).f1) := by
 obtain ⟨ad, c, e, _, hK, hc0⟩ := Kd.C_get h z151 i h0 h1
 have hc : ∀ j u, c[j]? = some u → w.cell? (ad.add (i.toNat * 2 + j)) = some u := hc0
 obtain rfl := k151_open hK
 exact ⟨ad, e, hc 0 _ rfl, by rw [← add_field _ _ 1 (by omega)]; exact hc 1 _ rfl⟩
structure S49 where
 f0 : Int
 f1 : Int
structure S63 where
 f0 : Int
 f1 : Int
 f2 : Int
structure S86 where
 f0 : Int
 f1 : Int
 f2 : Bool
structure S111 where
 f0 : Int
 f1 : Int
 f2 : Int
structure BelowW (w : World) where
 w2 : World
 h : Below w.heap.size w w2
instance (w : World) : Inhabited (BelowW w) := ⟨⟨w, Below.refl _ w⟩⟩
theorem BelowW.at {w : World} {a : Addr} {v : Value} (hq : w.cell? a = some v) (p : BelowW w) : p.w2.cell? a = some v := (p.h.cell (World.block_lt_of_cell? w _ hq)).trans hq
theorem BelowW.step {w : World} (p : BelowW w) {w1 : World} (hb : Below p.w2.heap.size p.w2 w1) : ∃ q : BelowW w, w1 = q.w2 := ⟨⟨w1, below_step p.h hb⟩, rfl⟩
theorem BelowW.drawn {w : World} (p : BelowW w) {w1 : World} (hb : Drawn0 p.w2 w1) : ∃ q : BelowW w, w1 = q.w2 := p.step hb.below
theorem BelowW.quiet {P : Program} {ops : Array Oper} {C : World → Prop} {Q Q' : Act → Prop} (hQ : ∀ a, Q a → Q' a) : ∀ (l : List Oper) (a : Act), wpQuiet P ops C Q l a → wpQuiet P ops C Q' l a
 | [], a, h => hQ a h
 | o :: l, a, h => by
  unfold wpQuiet at h ⊢
  split
  ·
   rename_i hw
   rw [if_pos hw] at h
   exact Oper.quiet_mono (BelowW.quiet hQ l) h
  ·
   rename_i hw
   rw [if_neg hw] at h
   exact BelowW.quiet hQ l _ h
theorem BelowW.region {P : Program} {id : Nat} {Q : Exit → Act → World → Prop} {a : Act} {w : World} {l : List Oper} (hm : P.follows .mixedOrders = true) (hB : Region.lexB .any l.toArray = true)
  (h : wpQuiet P l.toArray (fun w2 => ∃ p : BelowW w.drew, w2 = p.w2) (fun a' => ∀ w2, Below w.drew.heap.size w.drew w2 → Q .normal a' w2) l a) : (Code.region id l.toArray true).wp P Q a w :=
 wp_region_quiet (C := fun w2 => ∃ p : BelowW w.drew, w2 = p.w2) hm hB ⟨⟨w.drew, Below.refl _ _⟩, rfl⟩ (BelowW.quiet (fun a h w2 hw => by obtain ⟨p, rfl⟩ := hw; exact h _ p.h) _ _ (by simpa using h))
structure Fr (w W : World) (L : List (Nat × Obj)) : Prop where
 below : Below w.heap.size w W
 own : ∀ p ∈ L, w.heap.size ≤ p.1 ∧ W.heap[p.1]? = some p.2
 ne : L.Pairwise (fun p q => p.1 ≠ q.1)
theorem Fr.of {w W : World} (h : Below w.heap.size w W) : Fr w W [] := ⟨h, by simp, .nil⟩
theorem Fr.get {w W : World} {L : List (Nat × Obj)} (h : Fr w W L) {i g : Nat} {o : Obj} (hi : L[i]? = some (g, o)) : W.heap[g]? = some o := (h.own _ (List.mem_of_getElem? hi)).2
theorem Fr.ge {w W : World} {L : List (Nat × Obj)} (h : Fr w W L) {i g : Nat} {o : Obj} (hi : L[i]? = some (g, o)) : w.heap.size ≤ g := (h.own _ (List.mem_of_getElem? hi)).1
theorem Fr.step {w W W' : World} {L : List (Nat × Obj)} (h : Fr w W L) (hb : Below W.heap.size W W') : Fr w W' L := ⟨below_step h.below hb, fun p hp => ⟨(h.own p hp).1, blk_below (h.own p hp).2 hb⟩, h.ne⟩
theorem Fr.drew {w W : World} {L : List (Nat × Obj)} (h : Fr w W L) : Fr w W.drew L := h.step (below_drew1 (Below.refl _ W))
theorem Fr.drawn {w W W' : World} {L : List (Nat × Obj)} (h : Fr w W L) (hb : Drawn0 W W') : Fr w W' L := h.step hb.below
theorem Fr.push {w W W' : World} {L : List (Nat × Obj)} (h : Fr w W L) {g : Nat} {o : Obj} (hg : g = W.heap.size) (hx : W'.heap[g]? = some o) (hb : Below W.heap.size W W') : Fr w W' (L ++ [(g, o)]) := by
 have h1 := h.step hb
 refine ⟨h1.below, fun p hp => ?_, ?_⟩
 ·
  rcases List.mem_append.1 hp with hp | hp
  ·
   exact h1.own p hp
  ·
   rw [List.mem_singleton] at hp
   subst hp
   exact ⟨by rw [hg]; exact below_size h.below, hx⟩
 ·
  rw [List.pairwise_append]
  refine ⟨h.ne, List.pairwise_singleton _ _, fun p hp q hq => ?_⟩
  rw [List.mem_singleton] at hq
  subst hq
  have := blk_lt (h.own p hp).2
  show p.1 ≠ g
  omega
theorem Fr.apart {w W : World} {L : List (Nat × Obj)} (h : Fr w W L) {i j g f : Nat} {o p : Obj} (hi : L[i]? = some (g, o)) (hj : L[j]? = some (f, p)) (hn : i ≠ j) : g ≠ f := by
 have h1 := h.ne
 rw [List.pairwise_iff_getElem] at h1
 obtain ⟨a1, a2⟩ := List.getElem?_eq_some_iff.1 hi
 obtain ⟨b1, b2⟩ := List.getElem?_eq_some_iff.1 hj
 rcases Nat.lt_or_gt_of_ne hn with hlt | hgt
 ·
  have := h1 i j a1 b1 hlt
  rw [a2, b2] at this
  exact this
 ·
  have := h1 j i b1 a1 hgt
  rw [a2, b2] at this
  exact fun e => this e.symm
theorem Fr.set1 {w W : World} {L : List (Nat × Obj)} (h : Fr w W L) {i g : Nat} {cs : Array Value} {t : TypeId} (hi : L[i]? = some (g, .cells cs t (0, 0))) (j : Nat) (v : Value) {cs' : Array Value} (hc : cs.setIfInBounds j v = cs') : Fr w (W.setCell ⟨g, j, none⟩ v) (L.set i (g, .cells cs' t (0, 0))) := by
 refine ⟨below_set h.below (h.ge hi), fun p hp => ?_, ?_⟩
 ·
  obtain ⟨q, hq, rfl⟩ := List.getElem_of_mem hp
  rw [List.getElem_set]
  rw [List.length_set] at hq
  split
  ·
   exact ⟨h.ge hi, blk_put (h.get hi) j v hc⟩
  ·
   rename_i hne
   have hm := h.own _ (List.getElem_mem hq)
   refine ⟨hm.1, (Below.heap_setCell W _ v _ ?_).trans hm.2⟩
   exact fun e => (h.apart hi (List.getElem?_eq_getElem hq) hne) e.symm
 ·
  have h1 := h.ne
  rw [List.pairwise_iff_getElem] at h1 ⊢
  obtain ⟨a1, a2⟩ := List.getElem?_eq_some_iff.1 hi
  intro x y hx hy hxy
  rw [List.length_set] at hx hy
  have := h1 x y hx hy hxy
  rw [List.getElem_set, List.getElem_set]
  split
  ·
   rename_i e
   subst e
   rw [a2] at this
   rw [if_neg (by omega)]
   exact this
  ·
   split
   ·
    rename_i e
    subst e
    rw [a2] at this
    exact this
   ·
    exact this
def put2 (W : World) (g : Nat) (x y : Value) : World := (W.setCell ⟨g, 0, none⟩ x).setCell ⟨g, 1, none⟩ y
theorem Fr.put2 {w W : World} {L : List (Nat × Obj)} (h : Fr w W L) {i g : Nat} {a b : Value} {t : TypeId} (hi : L[i]? = some (g, .cells #[a, b] t (0, 0))) (x y : Value) : Fr w (put2 W g x y) (L.set i (g, .cells #[x, y] t (0, 0))) := by
 have h1 := h.set1 hi 0 x rfl
 have hlt := (List.getElem?_eq_some_iff.1 hi).1
 have h2 := h1.set1 (i := i) (g := g) (cs := #[x, b]) (t := t) (by rw [List.getElem?_set_self hlt]; rfl) 1 y rfl
 rw [List.set_set] at h2
 exact h2
theorem Fr.take {w W : World} {L : List (Nat × Obj)} (h : Fr w W L) (n : Nat) : Fr w W (L.take n) := ⟨h.below, fun p hp => h.own p (List.mem_of_mem_take hp), h.ne.sublist (List.take_sublist n L)⟩
theorem Fr.c1 {w W : World} {L : List (Nat × Obj)} (h : Fr w W L) {i g : Nat} {a : Value} {t : TypeId} (hi : L[i]? = some (g, .cells #[a] t (0, 0))) : W.cell? ⟨g, 0, none⟩ = some a ∧ W.frozen? ⟨g, 0, none⟩ = false := ⟨(blk_cell (h.get hi) 0).trans rfl, blk_frozen (h.get hi) 0⟩
theorem Fr.c2 {w W : World} {L : List (Nat × Obj)} (h : Fr w W L) {i g : Nat} {a b : Value} {t : TypeId} (hi : L[i]? = some (g, .cells #[a, b] t (0, 0))) : W.cell? ⟨g, 0, none⟩ = some a ∧ W.cell? ⟨g, 1, none⟩ = some b ∧ W.frozen? ⟨g, 0, none⟩ = false ∧ W.frozen? ⟨g, 1, none⟩ = false :=
 ⟨(blk_cell (h.get hi) 0).trans rfl, (blk_cell (h.get hi) 1).trans rfl, blk_frozen (h.get hi) 0, blk_frozen (h.get hi) 1⟩
end Go.Proofs.Ytbhlmeghbfmgiaa.F

namespace Go.Proofs.Ytbhlmeghbfmgiaa.F
open Go.RowKit Go.Proofs.YtbhlmeghbfmgiaaW.PrintWords Go.Proofs.YtbhlmeghbfmgiaaW.PrintLast Go.Proofs.YtbhlmeghbfmgiaaW.PrintMore
attribute [local go_sem] max2_int min2_int max_two min_two max_three min_three max_four min_four
set_option linter.unusedVariables false
set_option linter.unusedSimpArgs false
theorem eqA95 (d : Nat) (w : World) (x0 y0 : Int) (x1 y1 : Int) :
  (Op.equalIn (d + 2) 95 (.agg #[.int .i64 x0, .int .i64 x1]) (.agg #[.int .i64 y0, .int .i64 y1])).run Try.prog w = .ok (x0 == y0 && (x1 == y1)) w := by
 refine eqA_of Try.underlying95 (by kernel_rfl) ?_
 refine eqf_cons (by rfl) (by go_simp; rfl) (by go_simp; rfl) (by go_simp) ?_
 exact eqf_last (by rfl) (by go_simp; rfl) (by go_simp; rfl) (by go_simp)
end Go.Proofs.Ytbhlmeghbfmgiaa.F

namespace Go.Proofs.Ytbhlmeghbfmgiaa.F
open Go.RowKit Go.Proofs.YtbhlmeghbfmgiaaW.PrintWords Go.Proofs.YtbhlmeghbfmgiaaW.PrintLast Go.Proofs.YtbhlmeghbfmgiaaW.PrintMore
attribute [local go_sem] max2_int min2_int max_two min_two max_three min_three max_four min_four
set_option linter.unusedVariables false
set_option linter.unusedSimpArgs false
def laws_big.f (l0 : List Int) : Option (Bool) := some (decide ((l0.length : Int) > 1048576))
set_option maxHeartbeats 8000000 in
set_option maxRecDepth 100000 in
theorem laws_big.calls (A0 : Option Addr) (c0 : Nat) (l0 : List Int) (r : Bool) (w : World) (hr0 : Kd.C (Kd.int .u8) w A0 l0.length l0) (hc0 : l0.length ≤ c0) (h : laws_big.f l0 = some r) :
  Calls Try.prog 10 #[.slice A0 l0.length c0] w fun e w' => e = .returned (.bool r) ∧ Drawn0 w w' := by
 have HR0 := Aside0.mk hr0
 have HC0 := Aside0.mk hc0
 clear hr0 hc0
 have H : (some (decide ((l0.length : Int) > 1048576))) = some r := h
 clear h
 obtain rfl := Option.some.inj H
 go_enter Try.func10, Try.ntmps10
 go_wp2
 go_ret
 exact ⟨by first | rfl | (simp; done) | (simp [*]; done), by repeat (first | exact Drawn0.refl _ | apply Drawn0.step)⟩
end Go.Proofs.Ytbhlmeghbfmgiaa.F

namespace Go.Proofs.Ytbhlmeghbfmgiaa.F
open Go.RowKit Go.Proofs.YtbhlmeghbfmgiaaW.PrintWords Go.Proofs.YtbhlmeghbfmgiaaW.PrintLast Go.Proofs.YtbhlmeghbfmgiaaW.PrintMore
attribute [local go_sem] max2_int min2_int max_two min_two max_three min_three max_four min_four
set_option linter.unusedVariables false
set_option linter.unusedSimpArgs false
def impl_InRange.f (a0 : Int) (a1 : Int) (a2 : Int) : Option (Bool) := if a1 ≤ a0 then (some (decide (a0 ≤ a2))) else (some false)
set_option maxHeartbeats 8000000 in
set_option maxRecDepth 100000 in
theorem impl_InRange.calls (a0 : Int) (a1 : Int) (a2 : Int) (r : Bool) (w : World) (h : impl_InRange.f a0 a1 a2 = some r) :
  Calls Try.prog 86 #[.int .i64 a0, .int .i64 a1, .int .i64 a2] w fun e w' => e = .returned (.bool r) ∧ Drawn0 w w' := by
 have H : (if a1 ≤ a0 then (some (decide (a0 ≤ a2))) else (some false)) = some r := h
 clear h
 by_cases c4 : a1 ≤ a0
 ·
  rw [if_pos c4] at H
  have c4b0 : decide (a1 ≤ a0) = true := decide_eq_true c4
  clear c4
  obtain rfl := Option.some.inj H
  go_enter Try.func86, Try.ntmps86
  go_wp2
  go_ret
  exact ⟨by first | rfl | (simp; done) | (simp [*]; done), by repeat (first | exact Drawn0.refl _ | apply Drawn0.step)⟩
 ·
  rw [if_neg c4] at H
  have c4b0 : decide (a1 ≤ a0) = false := decide_eq_false c4
  clear c4
  obtain rfl := Option.some.inj H
  go_enter Try.func86, Try.ntmps86
  go_wp2
  go_ret
  exact ⟨by first | rfl | (simp; done) | (simp [*]; done), by repeat (first | exact Drawn0.refl _ | apply Drawn0.step)⟩
end Go.Proofs.Ytbhlmeghbfmgiaa.F

namespace Go.Proofs.Ytbhlmeghbfmgiaa.F
open Go.RowKit Go.Proofs.YtbhlmeghbfmgiaaW.PrintWords Go.Proofs.YtbhlmeghbfmgiaaW.PrintLast Go.Proofs.YtbhlmeghbfmgiaaW.PrintMore
attribute [local go_sem] max2_int min2_int max_two min_two max_three min_three max_four min_four
set_option linter.unusedVariables false
set_option linter.unusedSimpArgs false
def impl_IsTempo.l0 : Nat → List (S151) → List (S151) → Int → Int → Option (Bool)
 | 0, _, _, _, _ => none
 | k + 1, x0, x5, x6, x7 => if x7 < x6 then (if 0 ≤ x7 then (if x7 < (x5.length : Int) then (if x7 = 0 then (if ((rd_T151 x5 x7).f0) = 0 then (if x7 > 0 then (if 0 ≤ (wrap64 (x7 - 1)) then (if (wrap64 (x7 - 1)) < (x0.length : Int) then (if ((rd_T151 x0 (wrap64 (x7 - 1))).f0) ≥ ((rd_T151 x5 x7).f0) then (some false) else (if ((rd_T151 x5 x7).f0) > 2000 then (some false) else ((impl_InRange.f ((rd_T151 x5 x7).f1) 20 300).bind fun t610 => (if t610 = true then (impl_IsTempo.l0 k x0 x5 x6 (wrap64 (x7 + 1))) else (some false))))) else (none)) else (none)) else (if ((rd_T151 x5 x7).f0) > 2000 then (some false) else ((impl_InRange.f ((rd_T151 x5 x7).f1) 20 300).bind fun t611 => (if t611 = true then (impl_IsTempo.l0 k x0 x5 x6 (wrap64 (x7 + 1))) else (some false))))) else (some false)) else (if x7 > 0 then (if 0 ≤ (wrap64 (x7 - 1)) then (if (wrap64 (x7 - 1)) < (x0.length : Int) then (if ((rd_T151 x0 (wrap64 (x7 - 1))).f0) ≥ ((rd_T151 x5 x7).f0) then (some false) else (if ((rd_T151 x5 x7).f0) > 2000 then (some false) else ((impl_InRange.f ((rd_T151 x5 x7).f1) 20 300).bind fun t613 => (if t613 = true then (impl_IsTempo.l0 k x0 x5 x6 (wrap64 (x7 + 1))) else (some false))))) else (none)) else (none)) else (if ((rd_T151 x5 x7).f0) > 2000 then (some false) else ((impl_InRange.f ((rd_T151 x5 x7).f1) 20 300).bind fun t614 => (if t614 = true then (impl_IsTempo.l0 k x0 x5 x6 (wrap64 (x7 + 1))) else (some false)))))) else (none)) else (none)) else ((impl_InRange.f (x0.length : Int) 1 8).bind fun t615 => (some t615))
def impl_IsTempo.f (k : Nat) (l0 : List (S151)) : Option (Bool) := impl_IsTempo.l0 k l0 l0 (l0.length : Int) 0
set_option maxHeartbeats 8000000 in
set_option maxRecDepth 100000 in
theorem impl_IsTempo.calls (k : Nat) (A0 : Option Addr) (c0 : Nat) (l0 : List (S151)) (r : Bool) (w : World) (hr0 : Kd.C k151 w A0 l0.length l0) (hc0 : l0.length ≤ c0) (h : impl_IsTempo.f k l0 = some r) :
  Calls Try.prog 65 #[.slice A0 l0.length c0] w fun e w' => e = .returned (.bool r) ∧ Below w.heap.size w w' := by
 have hu151 := Try.underlying151
 have HR0 := Aside0.mk hr0
 have HC0 := Aside0.mk hc0
 clear hr0 hc0
 have HB := Aside0.mk (Below.refl w.heap.size w)
 have H : (impl_IsTempo.l0 k l0 l0 (l0.length : Int) 0) = some r := h
 clear h
 have H' := Aside0.mk H
 clear H
 go_enter Try.func65, Try.ntmps65
 go_wp2
 go_loopg [7] k (fun kq v7 w' => ∃ (x7_1 : Int), v7 = .int .i64 x7_1 ∧ Aside0 (impl_IsTempo.l0 kq l0 l0 (l0.length : Int) x7_1 = some r) ∧ Aside0 (kq ≤ k) ∧ Aside0 (Below w.heap.size w w'))
 case atStart => exact ⟨(0), (by first | rfl | (simp; done) | (simp [*]; done)), H', ⟨Nat.le_refl _⟩, ⟨by repeat (first | (with_reducible first | exact HB.out | apply below_alloc | apply pw_below_drewN | apply below_drew1) | exact HB.out)⟩⟩
 case round =>
  clear H'
  obtain ⟨x7_1, rfl, HA, HK1, HB⟩ := hrel
  cases gk with
  | zero => exact absurd HA.out (by simp [impl_IsTempo.l0])
  | succ k1 =>
   have H := HA.out
   clear HA
   simp only [impl_IsTempo.l0] at H
   by_cases c2 : x7_1 < (l0.length : Int)
   ·
    rw [if_pos c2] at H
    have c2b0 : decide (x7_1 < (l0.length : Int)) = true := decide_eq_true c2
    clear c2
    by_cases c3 : 0 ≤ x7_1
    ·
     rw [if_pos c3] at H
     have c3b0 : decide (0 ≤ x7_1) = true := decide_eq_true c3
     clear c3
     by_cases c4 : x7_1 < (l0.length : Int)
     ·
      rw [if_pos c4] at H
      have c4b0 : decide (x7_1 < (l0.length : Int)) = true := decide_eq_true c4
      clear c4
      by_cases c5 : x7_1 = 0
      ·
       rw [if_pos c5] at H
       have c5b0 : (x7_1 == 0) = true := beq_iff_eq.mpr c5
       have c5b1 : (x7_1 != 0) = false := bne_eq_false_iff_eq.mpr c5
       clear c5
       by_cases c6 : ((rd_T151 l0 x7_1).f0) = 0
       ·
        rw [if_pos c6] at H
        have c6b0 : (((rd_T151 l0 x7_1).f0) == 0) = true := beq_iff_eq.mpr c6
        have c6b1 : (((rd_T151 l0 x7_1).f0) != 0) = false := bne_eq_false_iff_eq.mpr c6
        clear c6
        by_cases c7 : x7_1 > 0
        ·
         rw [if_pos c7] at H
         have c7b0 : decide (0 < x7_1) = true := decide_eq_true c7
         clear c7
         obtain ⟨ji8, hji8⟩ : ∃ j_ : Int, (wrap64 (x7_1 - 1)) = j_ := ⟨_, rfl⟩
         replace H : (if 0 ≤ (ji8) then (if (ji8) < (l0.length : Int) then (if ((rd_T151 l0 (ji8)).f0) ≥ ((rd_T151 l0 x7_1).f0) then (some false) else (if ((rd_T151 l0 x7_1).f0) > 2000 then (some false) else ((impl_InRange.f ((rd_T151 l0 x7_1).f1) 20 300).bind fun t610 => (if t610 = true then (impl_IsTempo.l0 k1 l0 l0 (l0.length : Int) (wrap64 (x7_1 + 1))) else (some false))))) else (none)) else (none)) = some r := by first | (rw [hji8] at H; exact H) | (simp only [hji8] at H ⊢; exact H)
         have hji8w : (IntKind.i64.wrap (x7_1 - 1)) = ji8 := (i64_w _).trans hji8
         by_cases c9 : 0 ≤ (ji8)
         ·
          rw [if_pos c9] at H
          have c9b0 : decide (0 ≤ (ji8)) = true := decide_eq_true c9
          clear c9
          by_cases c10 : (ji8) < (l0.length : Int)
          ·
           rw [if_pos c10] at H
           have c10b0 : decide ((ji8) < (l0.length : Int)) = true := decide_eq_true c10
           clear c10
           by_cases c11 : ((rd_T151 l0 (ji8)).f0) ≥ ((rd_T151 l0 x7_1).f0)
           ·
            rw [if_pos c11] at H
            have c11b0 : decide (((rd_T151 l0 x7_1).f0) ≤ ((rd_T151 l0 (ji8)).f0)) = true := decide_eq_true c11
            clear c11
            obtain rfl := Option.some.inj H
            have p607 : 0 ≤ (x7_1 : Int) := of_decide_eq_true (by first | (with_reducible assumption) | assumption)
            have q607 : x7_1 < (l0.length : Int) := of_decide_eq_true (by first | (with_reducible assumption) | assumption)
            obtain ⟨ad607, e607, hx607_0, hx607_1⟩ := at_T151 HR0.out x7_1 p607 q607
            cases e607
            replace hx607_0 := (HB.out.cell (World.block_lt_of_cell? w _ hx607_0)).trans hx607_0
            replace hx607_1 := (HB.out.cell (World.block_lt_of_cell? w _ hx607_1)).trans hx607_1
            replace p607 := eq_true p607
            replace q607 := eq_true q607
            try go_wp2_with (first | ((with_reducible refine gate_dst (N := 4) rfl ?_); refine box_event ?hg (N := 4) ?hd (cs := #[.int .i64 0, .int .i64 0]) (t := 151) ?hr ?_; (case hd => rfl); (case hg => rfl); (case hr => first | (go_simp; done) | (go_simp; rfl)); intro gb608 hg w12 hbox hb; have n0_ := Aside0.mk (below_step (by repeat (first | (with_reducible first | exact HB.out | apply below_alloc | apply pw_below_drewN | apply below_drew1) | exact HB.out)) hb); have n1_ := Aside0.mk (hbox); have n2_ := Aside0.mk ((by rw [hg]; exact (below_size (by repeat (first | (with_reducible first | exact HB.out | apply below_alloc | apply pw_below_drewN | apply below_drew1) | exact HB.out))) : w.heap.size ≤ gb608)); have n3_ := Aside0.mk ((by rw [hg]; exact (below_size (by repeat (first | (with_reducible first | exact HB.out | apply below_alloc | apply pw_below_drewN | apply below_drew1) | exact HB.out))) : w.heap.size ≤ gb608)); clear HB; have HB := n0_; have BK608 := n1_; have GW608 := n2_; have GE608 := n3_; clear n0_ n1_ n2_ n3_; clear hb hbox hg; have hcz13_0 : w12.cell? ⟨gb608, 0, none⟩ = some (.int .i64 0) := (blk_cell BK608.out 0).trans rfl; have hcz13_1 : w12.cell? ⟨gb608, 1, none⟩ = some (.int .i64 0) := (blk_cell BK608.out 1).trans rfl; have hfz13_0 := blk_frozen BK608.out 0; have hfz13_1 := blk_frozen BK608.out 1))
            have n0_ : Aside0 (((w12.setCell ⟨gb608, 0, none⟩ (.int .i64 ((rd_T151 l0 x7_1).f0))).setCell ⟨gb608, 1, none⟩ (.int .i64 ((rd_T151 l0 x7_1).f1))).heap[gb608]? = some (.cells #[.int .i64 ((rd_T151 l0 x7_1).f0), .int .i64 ((rd_T151 l0 x7_1).f1)] 151 (0, 0))) := ⟨by (with_reducible repeat (first | refine blk_drewN ?_ _ | refine blk_drew ?_ | refine blk_alloc ?_ _)); refine blk_put (cs := #[.int .i64 ((rd_T151 l0 x7_1).f0), .int .i64 0]) ?_ 1 _ rfl; (with_reducible repeat (first | refine blk_drewN ?_ _ | refine blk_drew ?_ | refine blk_alloc ?_ _)); refine blk_put (cs := #[.int .i64 0, .int .i64 0]) ?_ 0 _ rfl; (with_reducible repeat (first | refine blk_drewN ?_ _ | refine blk_drew ?_ | refine blk_alloc ?_ _)); exact BK608.out⟩
            have n1_ : Aside0 (Below w.heap.size w ((w12.setCell ⟨gb608, 0, none⟩ (.int .i64 ((rd_T151 l0 x7_1).f0))).setCell ⟨gb608, 1, none⟩ (.int .i64 ((rd_T151 l0 x7_1).f1)))) := ⟨by repeat (first | (with_reducible first | exact HB.out | apply below_alloc | apply pw_below_drewN | apply below_drew1 | refine below_set ?_ GE608.out) | exact HB.out)⟩
            (try clear BK608)
            (try clear HB)
            generalize ((w12.setCell ⟨gb608, 0, none⟩ (.int .i64 ((rd_T151 l0 x7_1).f0))).setCell ⟨gb608, 1, none⟩ (.int .i64 ((rd_T151 l0 x7_1).f1))) = w14 at n0_ n1_ ⊢
            have BK608 := n0_
            have HB := n1_
            clear n0_ n1_
            have n0_ := Aside0.mk (blk_drew BK608.out)
            have n1_ := Aside0.mk (below_drew1 HB.out)
            clear BK608
            clear HB
            have BK608 := n0_
            have HB := n1_
            clear n0_ n1_
            have p609 : 0 ≤ ((ji8) : Int) := of_decide_eq_true (by first | (with_reducible assumption) | assumption)
            have q609 : (ji8) < (l0.length : Int) := of_decide_eq_true (by first | (with_reducible assumption) | assumption)
            obtain ⟨ad609, e609, hx609_0, hx609_1⟩ := at_T151 HR0.out (ji8) p609 q609
            have hw609_1 := hx609_1
            have hw609_0 := hx609_0
            obtain rfl : ad607 = ad609 := (by injection e609)
            replace hx609_0 := (HB.out.cell (World.block_lt_of_cell? w _ hx609_0)).trans hx609_0
            replace hx609_1 := (HB.out.cell (World.block_lt_of_cell? w _ hx609_1)).trans hx609_1
            replace p609 := eq_true p609
            replace q609 := eq_true q609
            have hq0_ : w14.cell? ⟨gb608, 0, none⟩ = some (.int .i64 ((rd_T151 l0 x7_1).f0)) := (blk_cell BK608.out 0).trans rfl
            have hq1_ : w14.cell? ⟨gb608, 1, none⟩ = some (.int .i64 ((rd_T151 l0 x7_1).f1)) := (blk_cell BK608.out 1).trans rfl
            have hq2_ : w14.cell? (ad607.add (((ji8)).toNat * 2)) = some (.int .i64 ((rd_T151 l0 (ji8)).f0)) := ((HB.out.cell (World.block_lt_of_cell? w _ hw609_0)).trans hw609_0)
            have hq3_ : w14.cell? ⟨(ad607.add (((ji8)).toNat * 2)).block, (ad607.add (((ji8)).toNat * 2)).off + 1, none⟩ = some (.int .i64 ((rd_T151 l0 (ji8)).f1)) := ((HB.out.cell (World.block_lt_of_cell? w _ hw609_1)).trans hw609_1)
            go_quiet (fail)
            have nBK608_ := Aside0.mk (blk_drewN (w := w14) BK608.out nq)
            have nHB_ := Aside0.mk (pw_below_drewN (W := w14) ⟨HB.out.os, HB.out.tape, HB.out.output, HB.out.size, HB.out.block⟩ nq)
            have nhx609_0_ : (w14.drewN nq).cell? _ = _ := hx609_0
            have nhx609_1_ : (w14.drewN nq).cell? _ = _ := hx609_1
            clear BK608 HB hx609_0 hx609_1 hq0_ hq1_ hq2_ hq3_
            have BK608 := nBK608_
            have HB := nHB_
            have hx609_0 := nhx609_0_
            have hx609_1 := nhx609_1_
            clear nBK608_ nHB_ nhx609_0_ nhx609_1_
            generalize w14.drewN nq = w15 at BK608 HB hx609_0 hx609_1 ⊢
            try go_wp2
            go_ret
            exact ⟨by first | rfl | (simp [errW_none, errW_some] <;> rfl) | (simp only [← hji8]; first | rfl | (simp [errW_none, errW_some] <;> rfl)) | (simp [*, errW_none, errW_some] <;> rfl), by repeat (first | (with_reducible first | exact HB.out | apply below_alloc | apply pw_below_drewN | apply below_drew1 | refine below_set ?_ GE608.out) | exact HB.out)⟩
           ·
            rw [if_neg c11] at H
            have c11b0 : decide (((rd_T151 l0 x7_1).f0) ≤ ((rd_T151 l0 (ji8)).f0)) = false := decide_eq_false c11
            clear c11
            by_cases c16 : ((rd_T151 l0 x7_1).f0) > 2000
            ·
             rw [if_pos c16] at H
             have c16b0 : decide (2000 < ((rd_T151 l0 x7_1).f0)) = true := decide_eq_true c16
             clear c16
             obtain rfl := Option.some.inj H
             have p607 : 0 ≤ (x7_1 : Int) := of_decide_eq_true (by first | (with_reducible assumption) | assumption)
             have q607 : x7_1 < (l0.length : Int) := of_decide_eq_true (by first | (with_reducible assumption) | assumption)
             obtain ⟨ad607, e607, hx607_0, hx607_1⟩ := at_T151 HR0.out x7_1 p607 q607
             cases e607
             replace hx607_0 := (HB.out.cell (World.block_lt_of_cell? w _ hx607_0)).trans hx607_0
             replace hx607_1 := (HB.out.cell (World.block_lt_of_cell? w _ hx607_1)).trans hx607_1
             replace p607 := eq_true p607
             replace q607 := eq_true q607
             try go_wp2_with (first | ((with_reducible refine gate_dst (N := 4) rfl ?_); refine box_event ?hg (N := 4) ?hd (cs := #[.int .i64 0, .int .i64 0]) (t := 151) ?hr ?_; (case hd => rfl); (case hg => rfl); (case hr => first | (go_simp; done) | (go_simp; rfl)); intro gb608 hg w17 hbox hb; have n0_ := Aside0.mk (below_step (by repeat (first | (with_reducible first | exact HB.out | apply below_alloc | apply pw_below_drewN | apply below_drew1) | exact HB.out)) hb); have n1_ := Aside0.mk (hbox); have n2_ := Aside0.mk ((by rw [hg]; exact (below_size (by repeat (first | (with_reducible first | exact HB.out | apply below_alloc | apply pw_below_drewN | apply below_drew1) | exact HB.out))) : w.heap.size ≤ gb608)); have n3_ := Aside0.mk ((by rw [hg]; exact (below_size (by repeat (first | (with_reducible first | exact HB.out | apply below_alloc | apply pw_below_drewN | apply below_drew1) | exact HB.out))) : w.heap.size ≤ gb608)); clear HB; have HB := n0_; have BK608 := n1_; have GW608 := n2_; have GE608 := n3_; clear n0_ n1_ n2_ n3_; clear hb hbox hg; have hcz18_0 : w17.cell? ⟨gb608, 0, none⟩ = some (.int .i64 0) := (blk_cell BK608.out 0).trans rfl; have hcz18_1 : w17.cell? ⟨gb608, 1, none⟩ = some (.int .i64 0) := (blk_cell BK608.out 1).trans rfl; have hfz18_0 := blk_frozen BK608.out 0; have hfz18_1 := blk_frozen BK608.out 1))
             have n0_ : Aside0 (((w17.setCell ⟨gb608, 0, none⟩ (.int .i64 ((rd_T151 l0 x7_1).f0))).setCell ⟨gb608, 1, none⟩ (.int .i64 ((rd_T151 l0 x7_1).f1))).heap[gb608]? = some (.cells #[.int .i64 ((rd_T151 l0 x7_1).f0), .int .i64 ((rd_T151 l0 x7_1).f1)] 151 (0, 0))) := ⟨by (with_reducible repeat (first | refine blk_drewN ?_ _ | refine blk_drew ?_ | refine blk_alloc ?_ _)); refine blk_put (cs := #[.int .i64 ((rd_T151 l0 x7_1).f0), .int .i64 0]) ?_ 1 _ rfl; (with_reducible repeat (first | refine blk_drewN ?_ _ | refine blk_drew ?_ | refine blk_alloc ?_ _)); refine blk_put (cs := #[.int .i64 0, .int .i64 0]) ?_ 0 _ rfl; (with_reducible repeat (first | refine blk_drewN ?_ _ | refine blk_drew ?_ | refine blk_alloc ?_ _)); exact BK608.out⟩
             have n1_ : Aside0 (Below w.heap.size w ((w17.setCell ⟨gb608, 0, none⟩ (.int .i64 ((rd_T151 l0 x7_1).f0))).setCell ⟨gb608, 1, none⟩ (.int .i64 ((rd_T151 l0 x7_1).f1)))) := ⟨by repeat (first | (with_reducible first | exact HB.out | apply below_alloc | apply pw_below_drewN | apply below_drew1 | refine below_set ?_ GE608.out) | exact HB.out)⟩
             (try clear BK608)
             (try clear HB)
             generalize ((w17.setCell ⟨gb608, 0, none⟩ (.int .i64 ((rd_T151 l0 x7_1).f0))).setCell ⟨gb608, 1, none⟩ (.int .i64 ((rd_T151 l0 x7_1).f1))) = w19 at n0_ n1_ ⊢
             have BK608 := n0_
             have HB := n1_
             clear n0_ n1_
             have n0_ := Aside0.mk (blk_drew BK608.out)
             have n1_ := Aside0.mk (below_drew1 HB.out)
             clear BK608
             clear HB
             have BK608 := n0_
             have HB := n1_
             clear n0_ n1_
             have p609 : 0 ≤ ((ji8) : Int) := of_decide_eq_true (by first | (with_reducible assumption) | assumption)
             have q609 : (ji8) < (l0.length : Int) := of_decide_eq_true (by first | (with_reducible assumption) | assumption)
             obtain ⟨ad609, e609, hx609_0, hx609_1⟩ := at_T151 HR0.out (ji8) p609 q609
             have hw609_1 := hx609_1
             have hw609_0 := hx609_0
             obtain rfl : ad607 = ad609 := (by injection e609)
             replace hx609_0 := (HB.out.cell (World.block_lt_of_cell? w _ hx609_0)).trans hx609_0
             replace hx609_1 := (HB.out.cell (World.block_lt_of_cell? w _ hx609_1)).trans hx609_1
             replace p609 := eq_true p609
             replace q609 := eq_true q609
             have hq0_ : w19.cell? ⟨gb608, 0, none⟩ = some (.int .i64 ((rd_T151 l0 x7_1).f0)) := (blk_cell BK608.out 0).trans rfl
             have hq1_ : w19.cell? ⟨gb608, 1, none⟩ = some (.int .i64 ((rd_T151 l0 x7_1).f1)) := (blk_cell BK608.out 1).trans rfl
             have hq2_ : w19.cell? (ad607.add (((ji8)).toNat * 2)) = some (.int .i64 ((rd_T151 l0 (ji8)).f0)) := ((HB.out.cell (World.block_lt_of_cell? w _ hw609_0)).trans hw609_0)
             have hq3_ : w19.cell? ⟨(ad607.add (((ji8)).toNat * 2)).block, (ad607.add (((ji8)).toNat * 2)).off + 1, none⟩ = some (.int .i64 ((rd_T151 l0 (ji8)).f1)) := ((HB.out.cell (World.block_lt_of_cell? w _ hw609_1)).trans hw609_1)
             go_quiet (fail)
             have nBK608_ := Aside0.mk (blk_drewN (w := w19) BK608.out nq)
             have nHB_ := Aside0.mk (pw_below_drewN (W := w19) ⟨HB.out.os, HB.out.tape, HB.out.output, HB.out.size, HB.out.block⟩ nq)
             have nhx609_0_ : (w19.drewN nq).cell? _ = _ := hx609_0
             have nhx609_1_ : (w19.drewN nq).cell? _ = _ := hx609_1
             clear BK608 HB hx609_0 hx609_1 hq0_ hq1_ hq2_ hq3_
             have BK608 := nBK608_
             have HB := nHB_
             have hx609_0 := nhx609_0_
             have hx609_1 := nhx609_1_
             clear nBK608_ nHB_ nhx609_0_ nhx609_1_
             generalize w19.drewN nq = w20 at BK608 HB hx609_0 hx609_1 ⊢
             try go_wp2
             go_ret
             exact ⟨by first | rfl | (simp [errW_none, errW_some] <;> rfl) | (simp only [← hji8]; first | rfl | (simp [errW_none, errW_some] <;> rfl)) | (simp [*, errW_none, errW_some] <;> rfl), by repeat (first | (with_reducible first | exact HB.out | apply below_alloc | apply pw_below_drewN | apply below_drew1 | refine below_set ?_ GE608.out) | exact HB.out)⟩
            ·
             rw [if_neg c16] at H
             have c16b0 : decide (2000 < ((rd_T151 l0 x7_1).f0)) = false := decide_eq_false c16
             clear c16
             replace H := Option.bind_eq_some_iff.mp H
             obtain ⟨t610, A210, H⟩ := H
             try dsimp only at H
             have A21 := Aside0.mk A210
             clear A210
             by_cases c22 : t610 = true
             ·
              subst c22
              rw [if_pos rfl] at H
              have H' := Aside0.mk H
              clear H
              have p607 : 0 ≤ (x7_1 : Int) := of_decide_eq_true (by first | (with_reducible assumption) | assumption)
              have q607 : x7_1 < (l0.length : Int) := of_decide_eq_true (by first | (with_reducible assumption) | assumption)
              obtain ⟨ad607, e607, hx607_0, hx607_1⟩ := at_T151 HR0.out x7_1 p607 q607
              cases e607
              replace hx607_0 := (HB.out.cell (World.block_lt_of_cell? w _ hx607_0)).trans hx607_0
              replace hx607_1 := (HB.out.cell (World.block_lt_of_cell? w _ hx607_1)).trans hx607_1
              replace p607 := eq_true p607
              replace q607 := eq_true q607
              try go_wp2_with (first | ((with_reducible refine gate_dst (N := 4) rfl ?_); refine box_event ?hg (N := 4) ?hd (cs := #[.int .i64 0, .int .i64 0]) (t := 151) ?hr ?_; (case hd => rfl); (case hg => rfl); (case hr => first | (go_simp; done) | (go_simp; rfl)); intro gb608 hg w23 hbox hb; have n0_ := Aside0.mk (below_step (by repeat (first | (with_reducible first | exact HB.out | apply below_alloc | apply pw_below_drewN | apply below_drew1) | exact HB.out)) hb); have n1_ := Aside0.mk (hbox); have n2_ := Aside0.mk ((by rw [hg]; exact (below_size (by repeat (first | (with_reducible first | exact HB.out | apply below_alloc | apply pw_below_drewN | apply below_drew1) | exact HB.out))) : w.heap.size ≤ gb608)); have n3_ := Aside0.mk ((by rw [hg]; exact (below_size (by repeat (first | (with_reducible first | exact HB.out | apply below_alloc | apply pw_below_drewN | apply below_drew1) | exact HB.out))) : w.heap.size ≤ gb608)); clear HB; have HB := n0_; have BK608 := n1_; have GW608 := n2_; have GE608 := n3_; clear n0_ n1_ n2_ n3_; clear hb hbox hg; have hcz24_0 : w23.cell? ⟨gb608, 0, none⟩ = some (.int .i64 0) := (blk_cell BK608.out 0).trans rfl; have hcz24_1 : w23.cell? ⟨gb608, 1, none⟩ = some (.int .i64 0) := (blk_cell BK608.out 1).trans rfl; have hfz24_0 := blk_frozen BK608.out 0; have hfz24_1 := blk_frozen BK608.out 1))
              have n0_ : Aside0 (((w23.setCell ⟨gb608, 0, none⟩ (.int .i64 ((rd_T151 l0 x7_1).f0))).setCell ⟨gb608, 1, none⟩ (.int .i64 ((rd_T151 l0 x7_1).f1))).heap[gb608]? = some (.cells #[.int .i64 ((rd_T151 l0 x7_1).f0), .int .i64 ((rd_T151 l0 x7_1).f1)] 151 (0, 0))) := ⟨by (with_reducible repeat (first | refine blk_drewN ?_ _ | refine blk_drew ?_ | refine blk_alloc ?_ _)); refine blk_put (cs := #[.int .i64 ((rd_T151 l0 x7_1).f0), .int .i64 0]) ?_ 1 _ rfl; (with_reducible repeat (first | refine blk_drewN ?_ _ | refine blk_drew ?_ | refine blk_alloc ?_ _)); refine blk_put (cs := #[.int .i64 0, .int .i64 0]) ?_ 0 _ rfl; (with_reducible repeat (first | refine blk_drewN ?_ _ | refine blk_drew ?_ | refine blk_alloc ?_ _)); exact BK608.out⟩
              have n1_ : Aside0 (Below w.heap.size w ((w23.setCell ⟨gb608, 0, none⟩ (.int .i64 ((rd_T151 l0 x7_1).f0))).setCell ⟨gb608, 1, none⟩ (.int .i64 ((rd_T151 l0 x7_1).f1)))) := ⟨by repeat (first | (with_reducible first | exact HB.out | apply below_alloc | apply pw_below_drewN | apply below_drew1 | refine below_set ?_ GE608.out) | exact HB.out)⟩
              (try clear BK608)
              (try clear HB)
              generalize ((w23.setCell ⟨gb608, 0, none⟩ (.int .i64 ((rd_T151 l0 x7_1).f0))).setCell ⟨gb608, 1, none⟩ (.int .i64 ((rd_T151 l0 x7_1).f1))) = w25 at n0_ n1_ ⊢
              have BK608 := n0_
              have HB := n1_
              clear n0_ n1_
              have n0_ := Aside0.mk (blk_drew BK608.out)
              have n1_ := Aside0.mk (below_drew1 HB.out)
              clear BK608
              clear HB
              have BK608 := n0_
              have HB := n1_
              clear n0_ n1_
              have p609 : 0 ≤ ((ji8) : Int) := of_decide_eq_true (by first | (with_reducible assumption) | assumption)
              have q609 : (ji8) < (l0.length : Int) := of_decide_eq_true (by first | (with_reducible assumption) | assumption)
              obtain ⟨ad609, e609, hx609_0, hx609_1⟩ := at_T151 HR0.out (ji8) p609 q609
              have hw609_1 := hx609_1
              have hw609_0 := hx609_0
              obtain rfl : ad607 = ad609 := (by injection e609)
              replace hx609_0 := (HB.out.cell (World.block_lt_of_cell? w _ hx609_0)).trans hx609_0
              replace hx609_1 := (HB.out.cell (World.block_lt_of_cell? w _ hx609_1)).trans hx609_1
              replace p609 := eq_true p609
              replace q609 := eq_true q609
              have hq0_ : w25.cell? ⟨gb608, 0, none⟩ = some (.int .i64 ((rd_T151 l0 x7_1).f0)) := (blk_cell BK608.out 0).trans rfl
              have hq1_ : w25.cell? ⟨gb608, 1, none⟩ = some (.int .i64 ((rd_T151 l0 x7_1).f1)) := (blk_cell BK608.out 1).trans rfl
              have hq2_ : w25.cell? (ad607.add (((ji8)).toNat * 2)) = some (.int .i64 ((rd_T151 l0 (ji8)).f0)) := ((HB.out.cell (World.block_lt_of_cell? w _ hw609_0)).trans hw609_0)
              have hq3_ : w25.cell? ⟨(ad607.add (((ji8)).toNat * 2)).block, (ad607.add (((ji8)).toNat * 2)).off + 1, none⟩ = some (.int .i64 ((rd_T151 l0 (ji8)).f1)) := ((HB.out.cell (World.block_lt_of_cell? w _ hw609_1)).trans hw609_1)
              go_quiet ((first | (go_at_call 86; apply Calls.quiet_of; ((with_reducible refine (impl_InRange.calls ((rd_T151 l0 x7_1).f1) 20 300 true _ A21.out).mono ?_); exact fun _ _ h_ => ⟨h_.1, h_.2.out⟩))))
              have nBK608_ := Aside0.mk (blk_drewN (w := w25) BK608.out nq)
              have nHB_ := Aside0.mk (pw_below_drewN (W := w25) ⟨HB.out.os, HB.out.tape, HB.out.output, HB.out.size, HB.out.block⟩ nq)
              have nhx609_0_ : (w25.drewN nq).cell? _ = _ := hx609_0
              have nhx609_1_ : (w25.drewN nq).cell? _ = _ := hx609_1
              clear BK608 HB hx609_0 hx609_1 hq0_ hq1_ hq2_ hq3_
              have BK608 := nBK608_
              have HB := nHB_
              have hx609_0 := nhx609_0_
              have hx609_1 := nhx609_1_
              clear nBK608_ nHB_ nhx609_0_ nhx609_1_
              generalize w25.drewN nq = w26 at BK608 HB hx609_0 hx609_1 ⊢
              try go_wp2
              go_roundg k1
              case measure => have := HK1.out; omega
              case rel => exact ⟨(wrap64 (x7_1 + 1)), (by first | rfl | (simp; done) | (simp [*]; done)), H', ⟨by have := HK1.out; omega⟩, ⟨by repeat (first | (with_reducible first | exact HB.out | apply below_alloc | apply pw_below_drewN | apply below_drew1 | refine below_set ?_ GE608.out) | exact HB.out)⟩⟩
             ·
              replace c22 := Bool.eq_false_iff.mpr c22
              subst c22
              rw [if_neg (show ¬ (false = true) by decide)] at H
              obtain rfl := Option.some.inj H
              have p607 : 0 ≤ (x7_1 : Int) := of_decide_eq_true (by first | (with_reducible assumption) | assumption)
              have q607 : x7_1 < (l0.length : Int) := of_decide_eq_true (by first | (with_reducible assumption) | assumption)
              obtain ⟨ad607, e607, hx607_0, hx607_1⟩ := at_T151 HR0.out x7_1 p607 q607
              cases e607
              replace hx607_0 := (HB.out.cell (World.block_lt_of_cell? w _ hx607_0)).trans hx607_0
              replace hx607_1 := (HB.out.cell (World.block_lt_of_cell? w _ hx607_1)).trans hx607_1
              replace p607 := eq_true p607
              replace q607 := eq_true q607
              try go_wp2_with (first | ((with_reducible refine gate_dst (N := 4) rfl ?_); refine box_event ?hg (N := 4) ?hd (cs := #[.int .i64 0, .int .i64 0]) (t := 151) ?hr ?_; (case hd => rfl); (case hg => rfl); (case hr => first | (go_simp; done) | (go_simp; rfl)); intro gb608 hg w27 hbox hb; have n0_ := Aside0.mk (below_step (by repeat (first | (with_reducible first | exact HB.out | apply below_alloc | apply pw_below_drewN | apply below_drew1) | exact HB.out)) hb); have n1_ := Aside0.mk (hbox); have n2_ := Aside0.mk ((by rw [hg]; exact (below_size (by repeat (first | (with_reducible first | exact HB.out | apply below_alloc | apply pw_below_drewN | apply below_drew1) | exact HB.out))) : w.heap.size ≤ gb608)); have n3_ := Aside0.mk ((by rw [hg]; exact (below_size (by repeat (first | (with_reducible first | exact HB.out | apply below_alloc | apply pw_below_drewN | apply below_drew1) | exact HB.out))) : w.heap.size ≤ gb608)); clear HB; have HB := n0_; have BK608 := n1_; have GW608 := n2_; have GE608 := n3_; clear n0_ n1_ n2_ n3_; clear hb hbox hg; have hcz28_0 : w27.cell? ⟨gb608, 0, none⟩ = some (.int .i64 0) := (blk_cell BK608.out 0).trans rfl; have hcz28_1 : w27.cell? ⟨gb608, 1, none⟩ = some (.int .i64 0) := (blk_cell BK608.out 1).trans rfl; have hfz28_0 := blk_frozen BK608.out 0; have hfz28_1 := blk_frozen BK608.out 1))
              have n0_ : Aside0 (((w27.setCell ⟨gb608, 0, none⟩ (.int .i64 ((rd_T151 l0 x7_1).f0))).setCell ⟨gb608, 1, none⟩ (.int .i64 ((rd_T151 l0 x7_1).f1))).heap[gb608]? = some (.cells #[.int .i64 ((rd_T151 l0 x7_1).f0), .int .i64 ((rd_T151 l0 x7_1).f1)] 151 (0, 0))) := ⟨by (with_reducible repeat (first | refine blk_drewN ?_ _ | refine blk_drew ?_ | refine blk_alloc ?_ _)); refine blk_put (cs := #[.int .i64 ((rd_T151 l0 x7_1).f0), .int .i64 0]) ?_ 1 _ rfl; (with_reducible repeat (first | refine blk_drewN ?_ _ | refine blk_drew ?_ | refine blk_alloc ?_ _)); refine blk_put (cs := #[.int .i64 0, .int .i64 0]) ?_ 0 _ rfl; (with_reducible repeat (first | refine blk_drewN ?_ _ | refine blk_drew ?_ | refine blk_alloc ?_ _)); exact BK608.out⟩
              have n1_ : Aside0 (Below w.heap.size w ((w27.setCell ⟨gb608, 0, none⟩ (.int .i64 ((rd_T151 l0 x7_1).f0))).setCell ⟨gb608, 1, none⟩ (.int .i64 ((rd_T151 l0 x7_1).f1)))) := ⟨by repeat (first | (with_reducible first | exact HB.out | apply below_alloc | apply pw_below_drewN | apply below_drew1 | refine below_set ?_ GE608.out) | exact HB.out)⟩
              (try clear BK608)
              (try clear HB)
              generalize ((w27.setCell ⟨gb608, 0, none⟩ (.int .i64 ((rd_T151 l0 x7_1).f0))).setCell ⟨gb608, 1, none⟩ (.int .i64 ((rd_T151 l0 x7_1).f1))) = w29 at n0_ n1_ ⊢
              have BK608 := n0_
              have HB := n1_
              clear n0_ n1_
              have n0_ := Aside0.mk (blk_drew BK608.out)
              have n1_ := Aside0.mk (below_drew1 HB.out)
              clear BK608
              clear HB
              have BK608 := n0_
              have HB := n1_
              clear n0_ n1_
              have p609 : 0 ≤ ((ji8) : Int) := of_decide_eq_true (by first | (with_reducible assumption) | assumption)
              have q609 : (ji8) < (l0.length : Int) := of_decide_eq_true (by first | (with_reducible assumption) | assumption)
              obtain ⟨ad609, e609, hx609_0, hx609_1⟩ := at_T151 HR0.out (ji8) p609 q609
              have hw609_1 := hx609_1
              have hw609_0 := hx609_0
              obtain rfl : ad607 = ad609 := (by injection e609)
              replace hx609_0 := (HB.out.cell (World.block_lt_of_cell? w _ hx609_0)).trans hx609_0
              replace hx609_1 := (HB.out.cell (World.block_lt_of_cell? w _ hx609_1)).trans hx609_1
              replace p609 := eq_true p609
              replace q609 := eq_true q609
              have hq0_ : w29.cell? ⟨gb608, 0, none⟩ = some (.int .i64 ((rd_T151 l0 x7_1).f0)) := (blk_cell BK608.out 0).trans rfl
              have hq1_ : w29.cell? ⟨gb608, 1, none⟩ = some (.int .i64 ((rd_T151 l0 x7_1).f1)) := (blk_cell BK608.out 1).trans rfl
              have hq2_ : w29.cell? (ad607.add (((ji8)).toNat * 2)) = some (.int .i64 ((rd_T151 l0 (ji8)).f0)) := ((HB.out.cell (World.block_lt_of_cell? w _ hw609_0)).trans hw609_0)
              have hq3_ : w29.cell? ⟨(ad607.add (((ji8)).toNat * 2)).block, (ad607.add (((ji8)).toNat * 2)).off + 1, none⟩ = some (.int .i64 ((rd_T151 l0 (ji8)).f1)) := ((HB.out.cell (World.block_lt_of_cell? w _ hw609_1)).trans hw609_1)
              go_quiet ((first | (go_at_call 86; apply Calls.quiet_of; ((with_reducible refine (impl_InRange.calls ((rd_T151 l0 x7_1).f1) 20 300 false _ A21.out).mono ?_); exact fun _ _ h_ => ⟨h_.1, h_.2.out⟩))))
              have nBK608_ := Aside0.mk (blk_drewN (w := w29) BK608.out nq)
              have nHB_ := Aside0.mk (pw_below_drewN (W := w29) ⟨HB.out.os, HB.out.tape, HB.out.output, HB.out.size, HB.out.block⟩ nq)
              have nhx609_0_ : (w29.drewN nq).cell? _ = _ := hx609_0
              have nhx609_1_ : (w29.drewN nq).cell? _ = _ := hx609_1
              clear BK608 HB hx609_0 hx609_1 hq0_ hq1_ hq2_ hq3_
              have BK608 := nBK608_
              have HB := nHB_
              have hx609_0 := nhx609_0_
              have hx609_1 := nhx609_1_
              clear nBK608_ nHB_ nhx609_0_ nhx609_1_
              generalize w29.drewN nq = w30 at BK608 HB hx609_0 hx609_1 ⊢
              try go_wp2
              go_ret
              exact ⟨by first | rfl | (simp [errW_none, errW_some] <;> rfl) | (simp only [← hji8]; first | rfl | (simp [errW_none, errW_some] <;> rfl)) | (simp [*, errW_none, errW_some] <;> rfl), by repeat (first | (with_reducible first | exact HB.out | apply below_alloc | apply pw_below_drewN | apply below_drew1 | refine below_set ?_ GE608.out) | exact HB.out)⟩
          ·
           rw [if_neg c10] at H
           exact absurd H (by simp)
         ·
          rw [if_neg c9] at H
          exact absurd H (by simp)
        ·
         rw [if_neg c7] at H
         have c7b0 : decide (0 < x7_1) = false := decide_eq_false c7
         clear c7
         by_cases c31 : ((rd_T151 l0 x7_1).f0) > 2000
         ·
          rw [if_pos c31] at H
          have c31b0 : decide (2000 < ((rd_T151 l0 x7_1).f0)) = true := decide_eq_true c31
          clear c31
          obtain rfl := Option.some.inj H
          have p607 : 0 ≤ (x7_1 : Int) := of_decide_eq_true (by first | (with_reducible assumption) | assumption)
          have q607 : x7_1 < (l0.length : Int) := of_decide_eq_true (by first | (with_reducible assumption) | assumption)
          obtain ⟨ad607, e607, hx607_0, hx607_1⟩ := at_T151 HR0.out x7_1 p607 q607
          cases e607
          replace hx607_0 := (HB.out.cell (World.block_lt_of_cell? w _ hx607_0)).trans hx607_0
          replace hx607_1 := (HB.out.cell (World.block_lt_of_cell? w _ hx607_1)).trans hx607_1
          replace p607 := eq_true p607
          replace q607 := eq_true q607
          try go_wp2_with (first | ((with_reducible refine gate_dst (N := 4) rfl ?_); refine box_event ?hg (N := 4) ?hd (cs := #[.int .i64 0, .int .i64 0]) (t := 151) ?hr ?_; (case hd => rfl); (case hg => rfl); (case hr => first | (go_simp; done) | (go_simp; rfl)); intro gb608 hg w32 hbox hb; have n0_ := Aside0.mk (below_step (by repeat (first | (with_reducible first | exact HB.out | apply below_alloc | apply pw_below_drewN | apply below_drew1) | exact HB.out)) hb); have n1_ := Aside0.mk (hbox); have n2_ := Aside0.mk ((by rw [hg]; exact (below_size (by repeat (first | (with_reducible first | exact HB.out | apply below_alloc | apply pw_below_drewN | apply below_drew1) | exact HB.out))) : w.heap.size ≤ gb608)); have n3_ := Aside0.mk ((by rw [hg]; exact (below_size (by repeat (first | (with_reducible first | exact HB.out | apply below_alloc | apply pw_below_drewN | apply below_drew1) | exact HB.out))) : w.heap.size ≤ gb608)); clear HB; have HB := n0_; have BK608 := n1_; have GW608 := n2_; have GE608 := n3_; clear n0_ n1_ n2_ n3_; clear hb hbox hg; have hcz33_0 : w32.cell? ⟨gb608, 0, none⟩ = some (.int .i64 0) := (blk_cell BK608.out 0).trans rfl; have hcz33_1 : w32.cell? ⟨gb608, 1, none⟩ = some (.int .i64 0) := (blk_cell BK608.out 1).trans rfl; have hfz33_0 := blk_frozen BK608.out 0; have hfz33_1 := blk_frozen BK608.out 1))
          have n0_ : Aside0 (((w32.setCell ⟨gb608, 0, none⟩ (.int .i64 ((rd_T151 l0 x7_1).f0))).setCell ⟨gb608, 1, none⟩ (.int .i64 ((rd_T151 l0 x7_1).f1))).heap[gb608]? = some (.cells #[.int .i64 ((rd_T151 l0 x7_1).f0), .int .i64 ((rd_T151 l0 x7_1).f1)] 151 (0, 0))) := ⟨by (with_reducible repeat (first | refine blk_drewN ?_ _ | refine blk_drew ?_ | refine blk_alloc ?_ _)); refine blk_put (cs := #[.int .i64 ((rd_T151 l0 x7_1).f0), .int .i64 0]) ?_ 1 _ rfl; (with_reducible repeat (first | refine blk_drewN ?_ _ | refine blk_drew ?_ | refine blk_alloc ?_ _)); refine blk_put (cs := #[.int .i64 0, .int .i64 0]) ?_ 0 _ rfl; (with_reducible repeat (first | refine blk_drewN ?_ _ | refine blk_drew ?_ | refine blk_alloc ?_ _)); exact BK608.out⟩
          have n1_ : Aside0 (Below w.heap.size w ((w32.setCell ⟨gb608, 0, none⟩ (.int .i64 ((rd_T151 l0 x7_1).f0))).setCell ⟨gb608, 1, none⟩ (.int .i64 ((rd_T151 l0 x7_1).f1)))) := ⟨by repeat (first | (with_reducible first | exact HB.out | apply below_alloc | apply pw_below_drewN | apply below_drew1 | refine below_set ?_ GE608.out) | exact HB.out)⟩
          (try clear BK608)
          (try clear HB)
          generalize ((w32.setCell ⟨gb608, 0, none⟩ (.int .i64 ((rd_T151 l0 x7_1).f0))).setCell ⟨gb608, 1, none⟩ (.int .i64 ((rd_T151 l0 x7_1).f1))) = w34 at n0_ n1_ ⊢
          have BK608 := n0_
          have HB := n1_
          clear n0_ n1_
          have n0_ := Aside0.mk (blk_drew BK608.out)
          have n1_ := Aside0.mk (below_drew1 HB.out)
          clear BK608
          clear HB
          have BK608 := n0_
          have HB := n1_
          clear n0_ n1_
          have hq0_ : w34.cell? ⟨gb608, 0, none⟩ = some (.int .i64 ((rd_T151 l0 x7_1).f0)) := (blk_cell BK608.out 0).trans rfl
          have hq1_ : w34.cell? ⟨gb608, 1, none⟩ = some (.int .i64 ((rd_T151 l0 x7_1).f1)) := (blk_cell BK608.out 1).trans rfl
          go_quiet (fail)
          have nBK608_ := Aside0.mk (blk_drewN (w := w34) BK608.out nq)
          have nHB_ := Aside0.mk (pw_below_drewN (W := w34) ⟨HB.out.os, HB.out.tape, HB.out.output, HB.out.size, HB.out.block⟩ nq)
          clear BK608 HB hq0_ hq1_
          have BK608 := nBK608_
          have HB := nHB_
          clear nBK608_ nHB_
          generalize w34.drewN nq = w35 at BK608 HB ⊢
          try go_wp2
          go_ret
          exact ⟨by first | rfl | (simp [errW_none, errW_some] <;> rfl) | (simp [*, errW_none, errW_some] <;> rfl), by repeat (first | (with_reducible first | exact HB.out | apply below_alloc | apply pw_below_drewN | apply below_drew1 | refine below_set ?_ GE608.out) | exact HB.out)⟩
         ·
          rw [if_neg c31] at H
          have c31b0 : decide (2000 < ((rd_T151 l0 x7_1).f0)) = false := decide_eq_false c31
          clear c31
          replace H := Option.bind_eq_some_iff.mp H
          obtain ⟨t611, A360, H⟩ := H
          try dsimp only at H
          have A36 := Aside0.mk A360
          clear A360
          by_cases c37 : t611 = true
          ·
           subst c37
           rw [if_pos rfl] at H
           have H' := Aside0.mk H
           clear H
           have p607 : 0 ≤ (x7_1 : Int) := of_decide_eq_true (by first | (with_reducible assumption) | assumption)
           have q607 : x7_1 < (l0.length : Int) := of_decide_eq_true (by first | (with_reducible assumption) | assumption)
           obtain ⟨ad607, e607, hx607_0, hx607_1⟩ := at_T151 HR0.out x7_1 p607 q607
           cases e607
           replace hx607_0 := (HB.out.cell (World.block_lt_of_cell? w _ hx607_0)).trans hx607_0
           replace hx607_1 := (HB.out.cell (World.block_lt_of_cell? w _ hx607_1)).trans hx607_1
           replace p607 := eq_true p607
           replace q607 := eq_true q607
           try go_wp2_with (first | ((with_reducible refine gate_dst (N := 4) rfl ?_); refine box_event ?hg (N := 4) ?hd (cs := #[.int .i64 0, .int .i64 0]) (t := 151) ?hr ?_; (case hd => rfl); (case hg => rfl); (case hr => first | (go_simp; done) | (go_simp; rfl)); intro gb608 hg w38 hbox hb; have n0_ := Aside0.mk (below_step (by repeat (first | (with_reducible first | exact HB.out | apply below_alloc | apply pw_below_drewN | apply below_drew1) | exact HB.out)) hb); have n1_ := Aside0.mk (hbox); have n2_ := Aside0.mk ((by rw [hg]; exact (below_size (by repeat (first | (with_reducible first | exact HB.out | apply below_alloc | apply pw_below_drewN | apply below_drew1) | exact HB.out))) : w.heap.size ≤ gb608)); have n3_ := Aside0.mk ((by rw [hg]; exact (below_size (by repeat (first | (with_reducible first | exact HB.out | apply below_alloc | apply pw_below_drewN | apply below_drew1) | exact HB.out))) : w.heap.size ≤ gb608)); clear HB; have HB := n0_; have BK608 := n1_; have GW608 := n2_; have GE608 := n3_; clear n0_ n1_ n2_ n3_; clear hb hbox hg; have hcz39_0 : w38.cell? ⟨gb608, 0, none⟩ = some (.int .i64 0) := (blk_cell BK608.out 0).trans rfl; have hcz39_1 : w38.cell? ⟨gb608, 1, none⟩ = some (.int .i64 0) := (blk_cell BK608.out 1).trans rfl; have hfz39_0 := blk_frozen BK608.out 0; have hfz39_1 := blk_frozen BK608.out 1))
           have n0_ : Aside0 (((w38.setCell ⟨gb608, 0, none⟩ (.int .i64 ((rd_T151 l0 x7_1).f0))).setCell ⟨gb608, 1, none⟩ (.int .i64 ((rd_T151 l0 x7_1).f1))).heap[gb608]? = some (.cells #[.int .i64 ((rd_T151 l0 x7_1).f0), .int .i64 ((rd_T151 l0 x7_1).f1)] 151 (0, 0))) := ⟨by (with_reducible repeat (first | refine blk_drewN ?_ _ | refine blk_drew ?_ | refine blk_alloc ?_ _)); refine blk_put (cs := #[.int .i64 ((rd_T151 l0 x7_1).f0), .int .i64 0]) ?_ 1 _ rfl; (with_reducible repeat (first | refine blk_drewN ?_ _ | refine blk_drew ?_ | refine blk_alloc ?_ _)); refine blk_put (cs := #[.int .i64 0, .int .i64 0]) ?_ 0 _ rfl; (with_reducible repeat (first | refine blk_drewN ?_ _ | refine blk_drew ?_ | refine blk_alloc ?_ _)); exact BK608.out⟩
           have n1_ : Aside0 (Below w.heap.size w ((w38.setCell ⟨gb608, 0, none⟩ (.int .i64 ((rd_T151 l0 x7_1).f0))).setCell ⟨gb608, 1, none⟩ (.int .i64 ((rd_T151 l0 x7_1).f1)))) := ⟨by repeat (first | (with_reducible first | exact HB.out | apply below_alloc | apply pw_below_drewN | apply below_drew1 | refine below_set ?_ GE608.out) | exact HB.out)⟩
           (try clear BK608)
           (try clear HB)
           generalize ((w38.setCell ⟨gb608, 0, none⟩ (.int .i64 ((rd_T151 l0 x7_1).f0))).setCell ⟨gb608, 1, none⟩ (.int .i64 ((rd_T151 l0 x7_1).f1))) = w40 at n0_ n1_ ⊢
           have BK608 := n0_
           have HB := n1_
           clear n0_ n1_
           have n0_ := Aside0.mk (blk_drew BK608.out)
           have n1_ := Aside0.mk (below_drew1 HB.out)
           clear BK608
           clear HB
           have BK608 := n0_
           have HB := n1_
           clear n0_ n1_
           have hq0_ : w40.cell? ⟨gb608, 0, none⟩ = some (.int .i64 ((rd_T151 l0 x7_1).f0)) := (blk_cell BK608.out 0).trans rfl
           have hq1_ : w40.cell? ⟨gb608, 1, none⟩ = some (.int .i64 ((rd_T151 l0 x7_1).f1)) := (blk_cell BK608.out 1).trans rfl
           go_quiet ((first | (go_at_call 86; apply Calls.quiet_of; ((with_reducible refine (impl_InRange.calls ((rd_T151 l0 x7_1).f1) 20 300 true _ A36.out).mono ?_); exact fun _ _ h_ => ⟨h_.1, h_.2.out⟩))))
           have nBK608_ := Aside0.mk (blk_drewN (w := w40) BK608.out nq)
           have nHB_ := Aside0.mk (pw_below_drewN (W := w40) ⟨HB.out.os, HB.out.tape, HB.out.output, HB.out.size, HB.out.block⟩ nq)
           clear BK608 HB hq0_ hq1_
           have BK608 := nBK608_
           have HB := nHB_
           clear nBK608_ nHB_
           generalize w40.drewN nq = w41 at BK608 HB ⊢
           try go_wp2
           go_roundg k1
           case measure => have := HK1.out; omega
           case rel => exact ⟨(wrap64 (x7_1 + 1)), (by first | rfl | (simp; done) | (simp [*]; done)), H', ⟨by have := HK1.out; omega⟩, ⟨by repeat (first | (with_reducible first | exact HB.out | apply below_alloc | apply pw_below_drewN | apply below_drew1 | refine below_set ?_ GE608.out) | exact HB.out)⟩⟩
          ·
           replace c37 := Bool.eq_false_iff.mpr c37
           subst c37
           rw [if_neg (show ¬ (false = true) by decide)] at H
           obtain rfl := Option.some.inj H
           have p607 : 0 ≤ (x7_1 : Int) := of_decide_eq_true (by first | (with_reducible assumption) | assumption)
           have q607 : x7_1 < (l0.length : Int) := of_decide_eq_true (by first | (with_reducible assumption) | assumption)
           obtain ⟨ad607, e607, hx607_0, hx607_1⟩ := at_T151 HR0.out x7_1 p607 q607
           cases e607
           replace hx607_0 := (HB.out.cell (World.block_lt_of_cell? w _ hx607_0)).trans hx607_0
           replace hx607_1 := (HB.out.cell (World.block_lt_of_cell? w _ hx607_1)).trans hx607_1
           replace p607 := eq_true p607
           replace q607 := eq_true q607
           try go_wp2_with (first | ((with_reducible refine gate_dst (N := 4) rfl ?_); refine box_event ?hg (N := 4) ?hd (cs := #[.int .i64 0, .int .i64 0]) (t := 151) ?hr ?_; (case hd => rfl); (case hg => rfl); (case hr => first | (go_simp; done) | (go_simp; rfl)); intro gb608 hg w42 hbox hb; have n0_ := Aside0.mk (below_step (by repeat (first | (with_reducible first | exact HB.out | apply below_alloc | apply pw_below_drewN | apply below_drew1) | exact HB.out)) hb); have n1_ := Aside0.mk (hbox); have n2_ := Aside0.mk ((by rw [hg]; exact (below_size (by repeat (first | (with_reducible first | exact HB.out | apply below_alloc | apply pw_below_drewN | apply below_drew1) | exact HB.out))) : w.heap.size ≤ gb608)); have n3_ := Aside0.mk ((by rw [hg]; exact (below_size (by repeat (first | (with_reducible first | exact HB.out | apply below_alloc | apply pw_below_drewN | apply below_drew1) | exact HB.out))) : w.heap.size ≤ gb608)); clear HB; have HB := n0_; have BK608 := n1_; have GW608 := n2_; have GE608 := n3_; clear n0_ n1_ n2_ n3_; clear hb hbox hg; have hcz43_0 : w42.cell? ⟨gb608, 0, none⟩ = some (.int .i64 0) := (blk_cell BK608.out 0).trans rfl; have hcz43_1 : w42.cell? ⟨gb608, 1, none⟩ = some (.int .i64 0) := (blk_cell BK608.out 1).trans rfl; have hfz43_0 := blk_frozen BK608.out 0; have hfz43_1 := blk_frozen BK608.out 1))
           have n0_ : Aside0 (((w42.setCell ⟨gb608, 0, none⟩ (.int .i64 ((rd_T151 l0 x7_1).f0))).setCell ⟨gb608, 1, none⟩ (.int .i64 ((rd_T151 l0 x7_1).f1))).heap[gb608]? = some (.cells #[.int .i64 ((rd_T151 l0 x7_1).f0), .int .i64 ((rd_T151 l0 x7_1).f1)] 151 (0, 0))) := ⟨by (with_reducible repeat (first | refine blk_drewN ?_ _ | refine blk_drew ?_ | refine blk_alloc ?_ _)); refine blk_put (cs := #[.int .i64 ((rd_T151 l0 x7_1).f0), .int .i64 0]) ?_ 1 _ rfl; (with_reducible repeat (first | refine blk_drewN ?_ _ | refine blk_drew ?_ | refine blk_alloc ?_ _)); refine blk_put (cs := #[.int .i64 0, .int .i64 0]) ?_ 0 _ rfl; (with_reducible repeat (first | refine blk_drewN ?_ _ | refine blk_drew ?_ | refine blk_alloc ?_ _)); exact BK608.out⟩
           have n1_ : Aside0 (Below w.heap.size w ((w42.setCell ⟨gb608, 0, none⟩ (.int .i64 ((rd_T151 l0 x7_1).f0))).setCell ⟨gb608, 1, none⟩ (.int .i64 ((rd_T151 l0 x7_1).f1)))) := ⟨by repeat (first | (with_reducible first | exact HB.out | apply below_alloc | apply pw_below_drewN | apply below_drew1 | refine below_set ?_ GE608.out) | exact HB.out)⟩
           (try clear BK608)
           (try clear HB)
           generalize ((w42.setCell ⟨gb608, 0, none⟩ (.int .i64 ((rd_T151 l0 x7_1).f0))).setCell ⟨gb608, 1, none⟩ (.int .i64 ((rd_T151 l0 x7_1).f1))) = w44 at n0_ n1_ ⊢
           have BK608 := n0_
           have HB := n1_
           clear n0_ n1_
           have n0_ := Aside0.mk (blk_drew BK608.out)
           have n1_ := Aside0.mk (below_drew1 HB.out)
           clear BK608
           clear HB
           have BK608 := n0_
           have HB := n1_
           clear n0_ n1_
           have hq0_ : w44.cell? ⟨gb608, 0, none⟩ = some (.int .i64 ((rd_T151 l0 x7_1).f0)) := (blk_cell BK608.out 0).trans rfl
           have hq1_ : w44.cell? ⟨gb608, 1, none⟩ = some (.int .i64 ((rd_T151 l0 x7_1).f1)) := (blk_cell BK608.out 1).trans rfl
           go_quiet ((first | (go_at_call 86; apply Calls.quiet_of; ((with_reducible refine (impl_InRange.calls ((rd_T151 l0 x7_1).f1) 20 300 false _ A36.out).mono ?_); exact fun _ _ h_ => ⟨h_.1, h_.2.out⟩))))
           have nBK608_ := Aside0.mk (blk_drewN (w := w44) BK608.out nq)
           have nHB_ := Aside0.mk (pw_below_drewN (W := w44) ⟨HB.out.os, HB.out.tape, HB.out.output, HB.out.size, HB.out.block⟩ nq)
           clear BK608 HB hq0_ hq1_
           have BK608 := nBK608_
           have HB := nHB_
           clear nBK608_ nHB_
           generalize w44.drewN nq = w45 at BK608 HB ⊢
           try go_wp2
           go_ret
           exact ⟨by first | rfl | (simp [errW_none, errW_some] <;> rfl) | (simp [*, errW_none, errW_some] <;> rfl), by repeat (first | (with_reducible first | exact HB.out | apply below_alloc | apply pw_below_drewN | apply below_drew1 | refine below_set ?_ GE608.out) | exact HB.out)⟩
       ·
        rw [if_neg c6] at H
        have c6b0 : (((rd_T151 l0 x7_1).f0) == 0) = false := beq_eq_false_iff_ne.mpr c6
        have c6b1 : (((rd_T151 l0 x7_1).f0) != 0) = true := bne_iff_ne.mpr c6
        obtain rfl := Option.some.inj H
        have p607 : 0 ≤ (x7_1 : Int) := of_decide_eq_true (by first | (with_reducible assumption) | assumption)
        have q607 : x7_1 < (l0.length : Int) := of_decide_eq_true (by first | (with_reducible assumption) | assumption)
        obtain ⟨ad607, e607, hx607_0, hx607_1⟩ := at_T151 HR0.out x7_1 p607 q607
        cases e607
        replace hx607_0 := (HB.out.cell (World.block_lt_of_cell? w _ hx607_0)).trans hx607_0
        replace hx607_1 := (HB.out.cell (World.block_lt_of_cell? w _ hx607_1)).trans hx607_1
        replace p607 := eq_true p607
        replace q607 := eq_true q607
        try go_wp2_with (first | ((with_reducible refine gate_dst (N := 4) rfl ?_); refine box_event ?hg (N := 4) ?hd (cs := #[.int .i64 0, .int .i64 0]) (t := 151) ?hr ?_; (case hd => rfl); (case hg => rfl); (case hr => first | (go_simp; done) | (go_simp; rfl)); intro gb608 hg w46 hbox hb; have n0_ := Aside0.mk (below_step (by repeat (first | (with_reducible first | exact HB.out | apply below_alloc | apply pw_below_drewN | apply below_drew1) | exact HB.out)) hb); have n1_ := Aside0.mk (hbox); have n2_ := Aside0.mk ((by rw [hg]; exact (below_size (by repeat (first | (with_reducible first | exact HB.out | apply below_alloc | apply pw_below_drewN | apply below_drew1) | exact HB.out))) : w.heap.size ≤ gb608)); have n3_ := Aside0.mk ((by rw [hg]; exact (below_size (by repeat (first | (with_reducible first | exact HB.out | apply below_alloc | apply pw_below_drewN | apply below_drew1) | exact HB.out))) : w.heap.size ≤ gb608)); clear HB; have HB := n0_; have BK608 := n1_; have GW608 := n2_; have GE608 := n3_; clear n0_ n1_ n2_ n3_; clear hb hbox hg; have hcz47_0 : w46.cell? ⟨gb608, 0, none⟩ = some (.int .i64 0) := (blk_cell BK608.out 0).trans rfl; have hcz47_1 : w46.cell? ⟨gb608, 1, none⟩ = some (.int .i64 0) := (blk_cell BK608.out 1).trans rfl; have hfz47_0 := blk_frozen BK608.out 0; have hfz47_1 := blk_frozen BK608.out 1))
        have n0_ : Aside0 (((w46.setCell ⟨gb608, 0, none⟩ (.int .i64 ((rd_T151 l0 x7_1).f0))).setCell ⟨gb608, 1, none⟩ (.int .i64 ((rd_T151 l0 x7_1).f1))).heap[gb608]? = some (.cells #[.int .i64 ((rd_T151 l0 x7_1).f0), .int .i64 ((rd_T151 l0 x7_1).f1)] 151 (0, 0))) := ⟨by (with_reducible repeat (first | refine blk_drewN ?_ _ | refine blk_drew ?_ | refine blk_alloc ?_ _)); refine blk_put (cs := #[.int .i64 ((rd_T151 l0 x7_1).f0), .int .i64 0]) ?_ 1 _ rfl; (with_reducible repeat (first | refine blk_drewN ?_ _ | refine blk_drew ?_ | refine blk_alloc ?_ _)); refine blk_put (cs := #[.int .i64 0, .int .i64 0]) ?_ 0 _ rfl; (with_reducible repeat (first | refine blk_drewN ?_ _ | refine blk_drew ?_ | refine blk_alloc ?_ _)); exact BK608.out⟩
        have n1_ : Aside0 (Below w.heap.size w ((w46.setCell ⟨gb608, 0, none⟩ (.int .i64 ((rd_T151 l0 x7_1).f0))).setCell ⟨gb608, 1, none⟩ (.int .i64 ((rd_T151 l0 x7_1).f1)))) := ⟨by repeat (first | (with_reducible first | exact HB.out | apply below_alloc | apply pw_below_drewN | apply below_drew1 | refine below_set ?_ GE608.out) | exact HB.out)⟩
        (try clear BK608)
        (try clear HB)
        generalize ((w46.setCell ⟨gb608, 0, none⟩ (.int .i64 ((rd_T151 l0 x7_1).f0))).setCell ⟨gb608, 1, none⟩ (.int .i64 ((rd_T151 l0 x7_1).f1))) = w48 at n0_ n1_ ⊢
        have BK608 := n0_
        have HB := n1_
        clear n0_ n1_
        have n0_ := Aside0.mk (blk_drew BK608.out)
        have n1_ := Aside0.mk (below_drew1 HB.out)
        clear BK608
        clear HB
        have BK608 := n0_
        have HB := n1_
        clear n0_ n1_
        have hq0_ : w48.cell? ⟨gb608, 0, none⟩ = some (.int .i64 ((rd_T151 l0 x7_1).f0)) := (blk_cell BK608.out 0).trans rfl
        have hq1_ : w48.cell? ⟨gb608, 1, none⟩ = some (.int .i64 ((rd_T151 l0 x7_1).f1)) := (blk_cell BK608.out 1).trans rfl
        go_quiet (fail)
        have nBK608_ := Aside0.mk (blk_drewN (w := w48) BK608.out nq)
        have nHB_ := Aside0.mk (pw_below_drewN (W := w48) ⟨HB.out.os, HB.out.tape, HB.out.output, HB.out.size, HB.out.block⟩ nq)
        clear BK608 HB hq0_ hq1_
        have BK608 := nBK608_
        have HB := nHB_
        clear nBK608_ nHB_
        generalize w48.drewN nq = w49 at BK608 HB ⊢
        try go_wp2
        go_ret
        exact ⟨by first | rfl | (simp [errW_none, errW_some] <;> rfl) | (simp [*, errW_none, errW_some] <;> rfl), by repeat (first | (with_reducible first | exact HB.out | apply below_alloc | apply pw_below_drewN | apply below_drew1 | refine below_set ?_ GE608.out) | exact HB.out)⟩
      ·
       rw [if_neg c5] at H
       have c5b0 : (x7_1 == 0) = false := beq_eq_false_iff_ne.mpr c5
       have c5b1 : (x7_1 != 0) = true := bne_iff_ne.mpr c5
       by_cases c50 : x7_1 > 0
       ·
        rw [if_pos c50] at H
        have c50b0 : decide (0 < x7_1) = true := decide_eq_true c50
        clear c50
        obtain ⟨ji51, hji51⟩ : ∃ j_ : Int, (wrap64 (x7_1 - 1)) = j_ := ⟨_, rfl⟩
        replace H : (if 0 ≤ (ji51) then (if (ji51) < (l0.length : Int) then (if ((rd_T151 l0 (ji51)).f0) ≥ ((rd_T151 l0 x7_1).f0) then (some false) else (if ((rd_T151 l0 x7_1).f0) > 2000 then (some false) else ((impl_InRange.f ((rd_T151 l0 x7_1).f1) 20 300).bind fun t613 => (if t613 = true then (impl_IsTempo.l0 k1 l0 l0 (l0.length : Int) (wrap64 (x7_1 + 1))) else (some false))))) else (none)) else (none)) = some r := by first | (rw [hji51] at H; exact H) | (simp only [hji51] at H ⊢; exact H)
        have hji51w : (IntKind.i64.wrap (x7_1 - 1)) = ji51 := (i64_w _).trans hji51
        by_cases c52 : 0 ≤ (ji51)
        ·
         rw [if_pos c52] at H
         have c52b0 : decide (0 ≤ (ji51)) = true := decide_eq_true c52
         clear c52
         by_cases c53 : (ji51) < (l0.length : Int)
         ·
          rw [if_pos c53] at H
          have c53b0 : decide ((ji51) < (l0.length : Int)) = true := decide_eq_true c53
          clear c53
          by_cases c54 : ((rd_T151 l0 (ji51)).f0) ≥ ((rd_T151 l0 x7_1).f0)
          ·
           rw [if_pos c54] at H
           have c54b0 : decide (((rd_T151 l0 x7_1).f0) ≤ ((rd_T151 l0 (ji51)).f0)) = true := decide_eq_true c54
           clear c54
           obtain rfl := Option.some.inj H
           have p607 : 0 ≤ (x7_1 : Int) := of_decide_eq_true (by first | (with_reducible assumption) | assumption)
           have q607 : x7_1 < (l0.length : Int) := of_decide_eq_true (by first | (with_reducible assumption) | assumption)
           obtain ⟨ad607, e607, hx607_0, hx607_1⟩ := at_T151 HR0.out x7_1 p607 q607
           cases e607
           replace hx607_0 := (HB.out.cell (World.block_lt_of_cell? w _ hx607_0)).trans hx607_0
           replace hx607_1 := (HB.out.cell (World.block_lt_of_cell? w _ hx607_1)).trans hx607_1
           replace p607 := eq_true p607
           replace q607 := eq_true q607
           try go_wp2_with (first | ((with_reducible refine gate_dst (N := 4) rfl ?_); refine box_event ?hg (N := 4) ?hd (cs := #[.int .i64 0, .int .i64 0]) (t := 151) ?hr ?_; (case hd => rfl); (case hg => rfl); (case hr => first | (go_simp; done) | (go_simp; rfl)); intro gb608 hg w55 hbox hb; have n0_ := Aside0.mk (below_step (by repeat (first | (with_reducible first | exact HB.out | apply below_alloc | apply pw_below_drewN | apply below_drew1) | exact HB.out)) hb); have n1_ := Aside0.mk (hbox); have n2_ := Aside0.mk ((by rw [hg]; exact (below_size (by repeat (first | (with_reducible first | exact HB.out | apply below_alloc | apply pw_below_drewN | apply below_drew1) | exact HB.out))) : w.heap.size ≤ gb608)); have n3_ := Aside0.mk ((by rw [hg]; exact (below_size (by repeat (first | (with_reducible first | exact HB.out | apply below_alloc | apply pw_below_drewN | apply below_drew1) | exact HB.out))) : w.heap.size ≤ gb608)); clear HB; have HB := n0_; have BK608 := n1_; have GW608 := n2_; have GE608 := n3_; clear n0_ n1_ n2_ n3_; clear hb hbox hg; have hcz56_0 : w55.cell? ⟨gb608, 0, none⟩ = some (.int .i64 0) := (blk_cell BK608.out 0).trans rfl; have hcz56_1 : w55.cell? ⟨gb608, 1, none⟩ = some (.int .i64 0) := (blk_cell BK608.out 1).trans rfl; have hfz56_0 := blk_frozen BK608.out 0; have hfz56_1 := blk_frozen BK608.out 1))
           have n0_ : Aside0 (((w55.setCell ⟨gb608, 0, none⟩ (.int .i64 ((rd_T151 l0 x7_1).f0))).setCell ⟨gb608, 1, none⟩ (.int .i64 ((rd_T151 l0 x7_1).f1))).heap[gb608]? = some (.cells #[.int .i64 ((rd_T151 l0 x7_1).f0), .int .i64 ((rd_T151 l0 x7_1).f1)] 151 (0, 0))) := ⟨by (with_reducible repeat (first | refine blk_drewN ?_ _ | refine blk_drew ?_ | refine blk_alloc ?_ _)); refine blk_put (cs := #[.int .i64 ((rd_T151 l0 x7_1).f0), .int .i64 0]) ?_ 1 _ rfl; (with_reducible repeat (first | refine blk_drewN ?_ _ | refine blk_drew ?_ | refine blk_alloc ?_ _)); refine blk_put (cs := #[.int .i64 0, .int .i64 0]) ?_ 0 _ rfl; (with_reducible repeat (first | refine blk_drewN ?_ _ | refine blk_drew ?_ | refine blk_alloc ?_ _)); exact BK608.out⟩
           have n1_ : Aside0 (Below w.heap.size w ((w55.setCell ⟨gb608, 0, none⟩ (.int .i64 ((rd_T151 l0 x7_1).f0))).setCell ⟨gb608, 1, none⟩ (.int .i64 ((rd_T151 l0 x7_1).f1)))) := ⟨by repeat (first | (with_reducible first | exact HB.out | apply below_alloc | apply pw_below_drewN | apply below_drew1 | refine below_set ?_ GE608.out) | exact HB.out)⟩
           (try clear BK608)
           (try clear HB)
           generalize ((w55.setCell ⟨gb608, 0, none⟩ (.int .i64 ((rd_T151 l0 x7_1).f0))).setCell ⟨gb608, 1, none⟩ (.int .i64 ((rd_T151 l0 x7_1).f1))) = w57 at n0_ n1_ ⊢
           have BK608 := n0_
           have HB := n1_
           clear n0_ n1_
           have n0_ := Aside0.mk (blk_drew BK608.out)
           have n1_ := Aside0.mk (below_drew1 HB.out)
           clear BK608
           clear HB
           have BK608 := n0_
           have HB := n1_
           clear n0_ n1_
           have p612 : 0 ≤ ((ji51) : Int) := of_decide_eq_true (by first | (with_reducible assumption) | assumption)
           have q612 : (ji51) < (l0.length : Int) := of_decide_eq_true (by first | (with_reducible assumption) | assumption)
           obtain ⟨ad612, e612, hx612_0, hx612_1⟩ := at_T151 HR0.out (ji51) p612 q612
           have hw612_1 := hx612_1
           have hw612_0 := hx612_0
           obtain rfl : ad607 = ad612 := (by injection e612)
           replace hx612_0 := (HB.out.cell (World.block_lt_of_cell? w _ hx612_0)).trans hx612_0
           replace hx612_1 := (HB.out.cell (World.block_lt_of_cell? w _ hx612_1)).trans hx612_1
           replace p612 := eq_true p612
           replace q612 := eq_true q612
           have hq0_ : w57.cell? ⟨gb608, 0, none⟩ = some (.int .i64 ((rd_T151 l0 x7_1).f0)) := (blk_cell BK608.out 0).trans rfl
           have hq1_ : w57.cell? ⟨gb608, 1, none⟩ = some (.int .i64 ((rd_T151 l0 x7_1).f1)) := (blk_cell BK608.out 1).trans rfl
           have hq2_ : w57.cell? (ad607.add (((ji51)).toNat * 2)) = some (.int .i64 ((rd_T151 l0 (ji51)).f0)) := ((HB.out.cell (World.block_lt_of_cell? w _ hw612_0)).trans hw612_0)
           have hq3_ : w57.cell? ⟨(ad607.add (((ji51)).toNat * 2)).block, (ad607.add (((ji51)).toNat * 2)).off + 1, none⟩ = some (.int .i64 ((rd_T151 l0 (ji51)).f1)) := ((HB.out.cell (World.block_lt_of_cell? w _ hw612_1)).trans hw612_1)
           go_quiet (fail)
           have nBK608_ := Aside0.mk (blk_drewN (w := w57) BK608.out nq)
           have nHB_ := Aside0.mk (pw_below_drewN (W := w57) ⟨HB.out.os, HB.out.tape, HB.out.output, HB.out.size, HB.out.block⟩ nq)
           have nhx612_0_ : (w57.drewN nq).cell? _ = _ := hx612_0
           have nhx612_1_ : (w57.drewN nq).cell? _ = _ := hx612_1
           clear BK608 HB hx612_0 hx612_1 hq0_ hq1_ hq2_ hq3_
           have BK608 := nBK608_
           have HB := nHB_
           have hx612_0 := nhx612_0_
           have hx612_1 := nhx612_1_
           clear nBK608_ nHB_ nhx612_0_ nhx612_1_
           generalize w57.drewN nq = w58 at BK608 HB hx612_0 hx612_1 ⊢
           try go_wp2
           go_ret
           exact ⟨by first | rfl | (simp [errW_none, errW_some] <;> rfl) | (simp only [← hji51]; first | rfl | (simp [errW_none, errW_some] <;> rfl)) | (simp [*, errW_none, errW_some] <;> rfl), by repeat (first | (with_reducible first | exact HB.out | apply below_alloc | apply pw_below_drewN | apply below_drew1 | refine below_set ?_ GE608.out) | exact HB.out)⟩
          ·
           rw [if_neg c54] at H
           have c54b0 : decide (((rd_T151 l0 x7_1).f0) ≤ ((rd_T151 l0 (ji51)).f0)) = false := decide_eq_false c54
           clear c54
           by_cases c59 : ((rd_T151 l0 x7_1).f0) > 2000
           ·
            rw [if_pos c59] at H
            have c59b0 : decide (2000 < ((rd_T151 l0 x7_1).f0)) = true := decide_eq_true c59
            clear c59
            obtain rfl := Option.some.inj H
            have p607 : 0 ≤ (x7_1 : Int) := of_decide_eq_true (by first | (with_reducible assumption) | assumption)
            have q607 : x7_1 < (l0.length : Int) := of_decide_eq_true (by first | (with_reducible assumption) | assumption)
            obtain ⟨ad607, e607, hx607_0, hx607_1⟩ := at_T151 HR0.out x7_1 p607 q607
            cases e607
            replace hx607_0 := (HB.out.cell (World.block_lt_of_cell? w _ hx607_0)).trans hx607_0
            replace hx607_1 := (HB.out.cell (World.block_lt_of_cell? w _ hx607_1)).trans hx607_1
            replace p607 := eq_true p607
            replace q607 := eq_true q607
            try go_wp2_with (first | ((with_reducible refine gate_dst (N := 4) rfl ?_); refine box_event ?hg (N := 4) ?hd (cs := #[.int .i64 0, .int .i64 0]) (t := 151) ?hr ?_; (case hd => rfl); (case hg => rfl); (case hr => first | (go_simp; done) | (go_simp; rfl)); intro gb608 hg w60 hbox hb; have n0_ := Aside0.mk (below_step (by repeat (first | (with_reducible first | exact HB.out | apply below_alloc | apply pw_below_drewN | apply below_drew1) | exact HB.out)) hb); have n1_ := Aside0.mk (hbox); have n2_ := Aside0.mk ((by rw [hg]; exact (below_size (by repeat (first | (with_reducible first | exact HB.out | apply below_alloc | apply pw_below_drewN | apply below_drew1) | exact HB.out))) : w.heap.size ≤ gb608)); have n3_ := Aside0.mk ((by rw [hg]; exact (below_size (by repeat (first | (with_reducible first | exact HB.out | apply below_alloc | apply pw_below_drewN | apply below_drew1) | exact HB.out))) : w.heap.size ≤ gb608)); clear HB; have HB := n0_; have BK608 := n1_; have GW608 := n2_; have GE608 := n3_; clear n0_ n1_ n2_ n3_; clear hb hbox hg; have hcz61_0 : w60.cell? ⟨gb608, 0, none⟩ = some (.int .i64 0) := (blk_cell BK608.out 0).trans rfl; have hcz61_1 : w60.cell? ⟨gb608, 1, none⟩ = some (.int .i64 0) := (blk_cell BK608.out 1).trans rfl; have hfz61_0 := blk_frozen BK608.out 0; have hfz61_1 := blk_frozen BK608.out 1))
            have n0_ : Aside0 (((w60.setCell ⟨gb608, 0, none⟩ (.int .i64 ((rd_T151 l0 x7_1).f0))).setCell ⟨gb608, 1, none⟩ (.int .i64 ((rd_T151 l0 x7_1).f1))).heap[gb608]? = some (.cells #[.int .i64 ((rd_T151 l0 x7_1).f0), .int .i64 ((rd_T151 l0 x7_1).f1)] 151 (0, 0))) := ⟨by (with_reducible repeat (first | refine blk_drewN ?_ _ | refine blk_drew ?_ | refine blk_alloc ?_ _)); refine blk_put (cs := #[.int .i64 ((rd_T151 l0 x7_1).f0), .int .i64 0]) ?_ 1 _ rfl; (with_reducible repeat (first | refine blk_drewN ?_ _ | refine blk_drew ?_ | refine blk_alloc ?_ _)); refine blk_put (cs := #[.int .i64 0, .int .i64 0]) ?_ 0 _ rfl; (with_reducible repeat (first | refine blk_drewN ?_ _ | refine blk_drew ?_ | refine blk_alloc ?_ _)); exact BK608.out⟩
            have n1_ : Aside0 (Below w.heap.size w ((w60.setCell ⟨gb608, 0, none⟩ (.int .i64 ((rd_T151 l0 x7_1).f0))).setCell ⟨gb608, 1, none⟩ (.int .i64 ((rd_T151 l0 x7_1).f1)))) := ⟨by repeat (first | (with_reducible first | exact HB.out | apply below_alloc | apply pw_below_drewN | apply below_drew1 | refine below_set ?_ GE608.out) | exact HB.out)⟩
            (try clear BK608)
            (try clear HB)
            generalize ((w60.setCell ⟨gb608, 0, none⟩ (.int .i64 ((rd_T151 l0 x7_1).f0))).setCell ⟨gb608, 1, none⟩ (.int .i64 ((rd_T151 l0 x7_1).f1))) = w62 at n0_ n1_ ⊢
            have BK608 := n0_
            have HB := n1_
            clear n0_ n1_
            have n0_ := Aside0.mk (blk_drew BK608.out)
            have n1_ := Aside0.mk (below_drew1 HB.out)
            clear BK608
            clear HB
            have BK608 := n0_
            have HB := n1_
            clear n0_ n1_
            have p612 : 0 ≤ ((ji51) : Int) := of_decide_eq_true (by first | (with_reducible assumption) | assumption)
            have q612 : (ji51) < (l0.length : Int) := of_decide_eq_true (by first | (with_reducible assumption) | assumption)
            obtain ⟨ad612, e612, hx612_0, hx612_1⟩ := at_T151 HR0.out (ji51) p612 q612
            have hw612_1 := hx612_1
            have hw612_0 := hx612_0
            obtain rfl : ad607 = ad612 := (by injection e612)
            replace hx612_0 := (HB.out.cell (World.block_lt_of_cell? w _ hx612_0)).trans hx612_0
            replace hx612_1 := (HB.out.cell (World.block_lt_of_cell? w _ hx612_1)).trans hx612_1
            replace p612 := eq_true p612
            replace q612 := eq_true q612
            have hq0_ : w62.cell? ⟨gb608, 0, none⟩ = some (.int .i64 ((rd_T151 l0 x7_1).f0)) := (blk_cell BK608.out 0).trans rfl
            have hq1_ : w62.cell? ⟨gb608, 1, none⟩ = some (.int .i64 ((rd_T151 l0 x7_1).f1)) := (blk_cell BK608.out 1).trans rfl
            have hq2_ : w62.cell? (ad607.add (((ji51)).toNat * 2)) = some (.int .i64 ((rd_T151 l0 (ji51)).f0)) := ((HB.out.cell (World.block_lt_of_cell? w _ hw612_0)).trans hw612_0)
            have hq3_ : w62.cell? ⟨(ad607.add (((ji51)).toNat * 2)).block, (ad607.add (((ji51)).toNat * 2)).off + 1, none⟩ = some (.int .i64 ((rd_T151 l0 (ji51)).f1)) := ((HB.out.cell (World.block_lt_of_cell? w _ hw612_1)).trans hw612_1)
            go_quiet (fail)
            have nBK608_ := Aside0.mk (blk_drewN (w := w62) BK608.out nq)
            have nHB_ := Aside0.mk (pw_below_drewN (W := w62) ⟨HB.out.os, HB.out.tape, HB.out.output, HB.out.size, HB.out.block⟩ nq)
            have nhx612_0_ : (w62.drewN nq).cell? _ = _ := hx612_0
            have nhx612_1_ : (w62.drewN nq).cell? _ = _ := hx612_1
            clear BK608 HB hx612_0 hx612_1 hq0_ hq1_ hq2_ hq3_
            have BK608 := nBK608_
            have HB := nHB_
            have hx612_0 := nhx612_0_
            have hx612_1 := nhx612_1_
            clear nBK608_ nHB_ nhx612_0_ nhx612_1_
            generalize w62.drewN nq = w63 at BK608 HB hx612_0 hx612_1 ⊢
            try go_wp2
            go_ret
            exact ⟨by first | rfl | (simp [errW_none, errW_some] <;> rfl) | (simp only [← hji51]; first | rfl | (simp [errW_none, errW_some] <;> rfl)) | (simp [*, errW_none, errW_some] <;> rfl), by repeat (first | (with_reducible first | exact HB.out | apply below_alloc | apply pw_below_drewN | apply below_drew1 | refine below_set ?_ GE608.out) | exact HB.out)⟩
           ·
            rw [if_neg c59] at H
            have c59b0 : decide (2000 < ((rd_T151 l0 x7_1).f0)) = false := decide_eq_false c59
            clear c59
            replace H := Option.bind_eq_some_iff.mp H
            obtain ⟨t613, A640, H⟩ := H
            try dsimp only at H
            have A64 := Aside0.mk A640
            clear A640
            by_cases c65 : t613 = true
            ·
             subst c65
             rw [if_pos rfl] at H
             have H' := Aside0.mk H
             clear H
             have p607 : 0 ≤ (x7_1 : Int) := of_decide_eq_true (by first | (with_reducible assumption) | assumption)
             have q607 : x7_1 < (l0.length : Int) := of_decide_eq_true (by first | (with_reducible assumption) | assumption)
             obtain ⟨ad607, e607, hx607_0, hx607_1⟩ := at_T151 HR0.out x7_1 p607 q607
             cases e607
             replace hx607_0 := (HB.out.cell (World.block_lt_of_cell? w _ hx607_0)).trans hx607_0
             replace hx607_1 := (HB.out.cell (World.block_lt_of_cell? w _ hx607_1)).trans hx607_1
             replace p607 := eq_true p607
             replace q607 := eq_true q607
             try go_wp2_with (first | ((with_reducible refine gate_dst (N := 4) rfl ?_); refine box_event ?hg (N := 4) ?hd (cs := #[.int .i64 0, .int .i64 0]) (t := 151) ?hr ?_; (case hd => rfl); (case hg => rfl); (case hr => first | (go_simp; done) | (go_simp; rfl)); intro gb608 hg w66 hbox hb; have n0_ := Aside0.mk (below_step (by repeat (first | (with_reducible first | exact HB.out | apply below_alloc | apply pw_below_drewN | apply below_drew1) | exact HB.out)) hb); have n1_ := Aside0.mk (hbox); have n2_ := Aside0.mk ((by rw [hg]; exact (below_size (by repeat (first | (with_reducible first | exact HB.out | apply below_alloc | apply pw_below_drewN | apply below_drew1) | exact HB.out))) : w.heap.size ≤ gb608)); have n3_ := Aside0.mk ((by rw [hg]; exact (below_size (by repeat (first | (with_reducible first | exact HB.out | apply below_alloc | apply pw_below_drewN | apply below_drew1) | exact HB.out))) : w.heap.size ≤ gb608)); clear HB; have HB := n0_; have BK608 := n1_; have GW608 := n2_; have GE608 := n3_; clear n0_ n1_ n2_ n3_; clear hb hbox hg; have hcz67_0 : w66.cell? ⟨gb608, 0, none⟩ = some (.int .i64 0) := (blk_cell BK608.out 0).trans rfl; have hcz67_1 : w66.cell? ⟨gb608, 1, none⟩ = some (.int .i64 0) := (blk_cell BK608.out 1).trans rfl; have hfz67_0 := blk_frozen BK608.out 0; have hfz67_1 := blk_frozen BK608.out 1))
             have n0_ : Aside0 (((w66.setCell ⟨gb608, 0, none⟩ (.int .i64 ((rd_T151 l0 x7_1).f0))).setCell ⟨gb608, 1, none⟩ (.int .i64 ((rd_T151 l0 x7_1).f1))).heap[gb608]? = some (.cells #[.int .i64 ((rd_T151 l0 x7_1).f0), .int .i64 ((rd_T151 l0 x7_1).f1)] 151 (0, 0))) := ⟨by (with_reducible repeat (first | refine blk_drewN ?_ _ | refine blk_drew ?_ | refine blk_alloc ?_ _)); refine blk_put (cs := #[.int .i64 ((rd_T151 l0 x7_1).f0), .int .i64 0]) ?_ 1 _ rfl; (with_reducible repeat (first | refine blk_drewN ?_ _ | refine blk_drew ?_ | refine blk_alloc ?_ _)); refine blk_put (cs := #[.int .i64 0, .int .i64 0]) ?_ 0 _ rfl; (with_reducible repeat (first | refine blk_drewN ?_ _ | refine blk_drew ?_ | refine blk_alloc ?_ _)); exact BK608.out⟩
             have n1_ : Aside0 (Below w.heap.size w ((w66.setCell ⟨gb608, 0, none⟩ (.int .i64 ((rd_T151 l0 x7_1).f0))).setCell ⟨gb608, 1, none⟩ (.int .i64 ((rd_T151 l0 x7_1).f1)))) := ⟨by repeat (first | (with_reducible first | exact HB.out | apply below_alloc | apply pw_below_drewN | apply below_drew1 | refine below_set ?_ GE608.out) | exact HB.out)⟩
             (try clear BK608)
             (try clear HB)
             generalize ((w66.setCell ⟨gb608, 0, none⟩ (.int .i64 ((rd_T151 l0 x7_1).f0))).setCell ⟨gb608, 1, none⟩ (.int .i64 ((rd_T151 l0 x7_1).f1))) = w68 at n0_ n1_ ⊢
             have BK608 := n0_
             have HB := n1_
             clear n0_ n1_
             have n0_ := Aside0.mk (blk_drew BK608.out)
             have n1_ := Aside0.mk (below_drew1 HB.out)
             clear BK608
             clear HB
             have BK608 := n0_
             have HB := n1_
             clear n0_ n1_
             have p612 : 0 ≤ ((ji51) : Int) := of_decide_eq_true (by first | (with_reducible assumption) | assumption)
             have q612 : (ji51) < (l0.length : Int) := of_decide_eq_true (by first | (with_reducible assumption) | assumption)
             obtain ⟨ad612, e612, hx612_0, hx612_1⟩ := at_T151 HR0.out (ji51) p612 q612
             have hw612_1 := hx612_1
             have hw612_0 := hx612_0
             obtain rfl : ad607 = ad612 := (by injection e612)
             replace hx612_0 := (HB.out.cell (World.block_lt_of_cell? w _ hx612_0)).trans hx612_0
             replace hx612_1 := (HB.out.cell (World.block_lt_of_cell? w _ hx612_1)).trans hx612_1
             replace p612 := eq_true p612
             replace q612 := eq_true q612
             have hq0_ : w68.cell? ⟨gb608, 0, none⟩ = some (.int .i64 ((rd_T151 l0 x7_1).f0)) := (blk_cell BK608.out 0).trans rfl
             have hq1_ : w68.cell? ⟨gb608, 1, none⟩ = some (.int .i64 ((rd_T151 l0 x7_1).f1)) := (blk_cell BK608.out 1).trans rfl
             have hq2_ : w68.cell? (ad607.add (((ji51)).toNat * 2)) = some (.int .i64 ((rd_T151 l0 (ji51)).f0)) := ((HB.out.cell (World.block_lt_of_cell? w _ hw612_0)).trans hw612_0)
             have hq3_ : w68.cell? ⟨(ad607.add (((ji51)).toNat * 2)).block, (ad607.add (((ji51)).toNat * 2)).off + 1, none⟩ = some (.int .i64 ((rd_T151 l0 (ji51)).f1)) := ((HB.out.cell (World.block_lt_of_cell? w _ hw612_1)).trans hw612_1)
             go_quiet ((first | (go_at_call 86; apply Calls.quiet_of; ((with_reducible refine (impl_InRange.calls ((rd_T151 l0 x7_1).f1) 20 300 true _ A64.out).mono ?_); exact fun _ _ h_ => ⟨h_.1, h_.2.out⟩))))
             have nBK608_ := Aside0.mk (blk_drewN (w := w68) BK608.out nq)
             have nHB_ := Aside0.mk (pw_below_drewN (W := w68) ⟨HB.out.os, HB.out.tape, HB.out.output, HB.out.size, HB.out.block⟩ nq)
             have nhx612_0_ : (w68.drewN nq).cell? _ = _ := hx612_0
             have nhx612_1_ : (w68.drewN nq).cell? _ = _ := hx612_1
             clear BK608 HB hx612_0 hx612_1 hq0_ hq1_ hq2_ hq3_
             have BK608 := nBK608_
             have HB := nHB_
             have hx612_0 := nhx612_0_
             have hx612_1 := nhx612_1_
             clear nBK608_ nHB_ nhx612_0_ nhx612_1_
             generalize w68.drewN nq = w69 at BK608 HB hx612_0 hx612_1 ⊢
             try go_wp2
             go_roundg k1
             case measure => have := HK1.out; omega
             case rel => exact ⟨(wrap64 (x7_1 + 1)), (by first | rfl | (simp; done) | (simp [*]; done)), H', ⟨by have := HK1.out; omega⟩, ⟨by repeat (first | (with_reducible first | exact HB.out | apply below_alloc | apply pw_below_drewN | apply below_drew1 | refine below_set ?_ GE608.out) | exact HB.out)⟩⟩
            ·
             replace c65 := Bool.eq_false_iff.mpr c65
             subst c65
             rw [if_neg (show ¬ (false = true) by decide)] at H
             obtain rfl := Option.some.inj H
             have p607 : 0 ≤ (x7_1 : Int) := of_decide_eq_true (by first | (with_reducible assumption) | assumption)
             have q607 : x7_1 < (l0.length : Int) := of_decide_eq_true (by first | (with_reducible assumption) | assumption)
             obtain ⟨ad607, e607, hx607_0, hx607_1⟩ := at_T151 HR0.out x7_1 p607 q607
             cases e607
             replace hx607_0 := (HB.out.cell (World.block_lt_of_cell? w _ hx607_0)).trans hx607_0
             replace hx607_1 := (HB.out.cell (World.block_lt_of_cell? w _ hx607_1)).trans hx607_1
             replace p607 := eq_true p607
             replace q607 := eq_true q607
             try go_wp2_with (first | ((with_reducible refine gate_dst (N := 4) rfl ?_); refine box_event ?hg (N := 4) ?hd (cs := #[.int .i64 0, .int .i64 0]) (t := 151) ?hr ?_; (case hd => rfl); (case hg => rfl); (case hr => first | (go_simp; done) | (go_simp; rfl)); intro gb608 hg w70 hbox hb; have n0_ := Aside0.mk (below_step (by repeat (first | (with_reducible first | exact HB.out | apply below_alloc | apply pw_below_drewN | apply below_drew1) | exact HB.out)) hb); have n1_ := Aside0.mk (hbox); have n2_ := Aside0.mk ((by rw [hg]; exact (below_size (by repeat (first | (with_reducible first | exact HB.out | apply below_alloc | apply pw_below_drewN | apply below_drew1) | exact HB.out))) : w.heap.size ≤ gb608)); have n3_ := Aside0.mk ((by rw [hg]; exact (below_size (by repeat (first | (with_reducible first | exact HB.out | apply below_alloc | apply pw_below_drewN | apply below_drew1) | exact HB.out))) : w.heap.size ≤ gb608)); clear HB; have HB := n0_; have BK608 := n1_; have GW608 := n2_; have GE608 := n3_; clear n0_ n1_ n2_ n3_; clear hb hbox hg; have hcz71_0 : w70.cell? ⟨gb608, 0, none⟩ = some (.int .i64 0) := (blk_cell BK608.out 0).trans rfl; have hcz71_1 : w70.cell? ⟨gb608, 1, none⟩ = some (.int .i64 0) := (blk_cell BK608.out 1).trans rfl; have hfz71_0 := blk_frozen BK608.out 0; have hfz71_1 := blk_frozen BK608.out 1))
             have n0_ : Aside0 (((w70.setCell ⟨gb608, 0, none⟩ (.int .i64 ((rd_T151 l0 x7_1).f0))).setCell ⟨gb608, 1, none⟩ (.int .i64 ((rd_T151 l0 x7_1).f1))).heap[gb608]? = some (.cells #[.int .i64 ((rd_T151 l0 x7_1).f0), .int .i64 ((rd_T151 l0 x7_1).f1)] 151 (0, 0))) := ⟨by (with_reducible repeat (first | refine blk_drewN ?_ _ | refine blk_drew ?_ | refine blk_alloc ?_ _)); refine blk_put (cs := #[.int .i64 ((rd_T151 l0 x7_1).f0), .int .i64 0]) ?_ 1 _ rfl; (with_reducible repeat (first | refine blk_drewN ?_ _ | refine blk_drew ?_ | refine blk_alloc ?_ _)); refine blk_put (cs := #[.int .i64 0, .int .i64 0]) ?_ 0 _ rfl; (with_reducible repeat (first | refine blk_drewN ?_ _ | refine blk_drew ?_ | refine blk_alloc ?_ _)); exact BK608.out⟩
             have n1_ : Aside0 (Below w.heap.size w ((w70.setCell ⟨gb608, 0, none⟩ (.int .i64 ((rd_T151 l0 x7_1).f0))).setCell ⟨gb608, 1, none⟩ (.int .i64 ((rd_T151 l0 x7_1).f1)))) := ⟨by repeat (first | (with_reducible first | exact HB.out | apply below_alloc | apply pw_below_drewN | apply below_drew1 | refine below_set ?_ GE608.out) | exact HB.out)⟩
             (try clear BK608)
             (try clear HB)
             generalize ((w70.setCell ⟨gb608, 0, none⟩ (.int .i64 ((rd_T151 l0 x7_1).f0))).setCell ⟨gb608, 1, none⟩ (.int .i64 ((rd_T151 l0 x7_1).f1))) = w72 at n0_ n1_ ⊢
             have BK608 := n0_
             have HB := n1_
             clear n0_ n1_
             have n0_ := Aside0.mk (blk_drew BK608.out)
             have n1_ := Aside0.mk (below_drew1 HB.out)
             clear BK608
             clear HB
             have BK608 := n0_
             have HB := n1_
             clear n0_ n1_
             have p612 : 0 ≤ ((ji51) : Int) := of_decide_eq_true (by first | (with_reducible assumption) | assumption)
             have q612 : (ji51) < (l0.length : Int) := of_decide_eq_true (by first | (with_reducible assumption) | assumption)
             obtain ⟨ad612, e612, hx612_0, hx612_1⟩ := at_T151 HR0.out (ji51) p612 q612
             have hw612_1 := hx612_1
             have hw612_0 := hx612_0
             obtain rfl : ad607 = ad612 := (by injection e612)
             replace hx612_0 := (HB.out.cell (World.block_lt_of_cell? w _ hx612_0)).trans hx612_0
             replace hx612_1 := (HB.out.cell (World.block_lt_of_cell? w _ hx612_1)).trans hx612_1
             replace p612 := eq_true p612
             replace q612 := eq_true q612
             have hq0_ : w72.cell? ⟨gb608, 0, none⟩ = some (.int .i64 ((rd_T151 l0 x7_1).f0)) := (blk_cell BK608.out 0).trans rfl
             have hq1_ : w72.cell? ⟨gb608, 1, none⟩ = some (.int .i64 ((rd_T151 l0 x7_1).f1)) := (blk_cell BK608.out 1).trans rfl
             have hq2_ : w72.cell? (ad607.add (((ji51)).toNat * 2)) = some (.int .i64 ((rd_T151 l0 (ji51)).f0)) := ((HB.out.cell (World.block_lt_of_cell? w _ hw612_0)).trans hw612_0)
             have hq3_ : w72.cell? ⟨(ad607.add (((ji51)).toNat * 2)).block, (ad607.add (((ji51)).toNat * 2)).off + 1, none⟩ = some (.int .i64 ((rd_T151 l0 (ji51)).f1)) := ((HB.out.cell (World.block_lt_of_cell? w _ hw612_1)).trans hw612_1)
             go_quiet ((first | (go_at_call 86; apply Calls.quiet_of; ((with_reducible refine (impl_InRange.calls ((rd_T151 l0 x7_1).f1) 20 300 false _ A64.out).mono ?_); exact fun _ _ h_ => ⟨h_.1, h_.2.out⟩))))
             have nBK608_ := Aside0.mk (blk_drewN (w := w72) BK608.out nq)
             have nHB_ := Aside0.mk (pw_below_drewN (W := w72) ⟨HB.out.os, HB.out.tape, HB.out.output, HB.out.size, HB.out.block⟩ nq)
             have nhx612_0_ : (w72.drewN nq).cell? _ = _ := hx612_0
             have nhx612_1_ : (w72.drewN nq).cell? _ = _ := hx612_1
             clear BK608 HB hx612_0 hx612_1 hq0_ hq1_ hq2_ hq3_
             have BK608 := nBK608_
             have HB := nHB_
             have hx612_0 := nhx612_0_
             have hx612_1 := nhx612_1_
             clear nBK608_ nHB_ nhx612_0_ nhx612_1_
             generalize w72.drewN nq = w73 at BK608 HB hx612_0 hx612_1 ⊢
             try go_wp2
             go_ret
             exact ⟨by first | rfl | (simp [errW_none, errW_some] <;> rfl) | (simp only [← hji51]; first | rfl | (simp [errW_none, errW_some] <;> rfl)) | (simp [*, errW_none, errW_some] <;> rfl), by repeat (first | (with_reducible first | exact HB.out | apply below_alloc | apply pw_below_drewN | apply below_drew1 | refine below_set ?_ GE608.out) | exact HB.out)⟩
         ·
          rw [if_neg c53] at H
          exact absurd H (by simp)
        ·
         rw [if_neg c52] at H
         exact absurd H (by simp)
       ·
        rw [if_neg c50] at H
        have c50b0 : decide (0 < x7_1) = false := decide_eq_false c50
        clear c50
        by_cases c74 : ((rd_T151 l0 x7_1).f0) > 2000
        ·
         rw [if_pos c74] at H
         have c74b0 : decide (2000 < ((rd_T151 l0 x7_1).f0)) = true := decide_eq_true c74
         clear c74
         obtain rfl := Option.some.inj H
         have p607 : 0 ≤ (x7_1 : Int) := of_decide_eq_true (by first | (with_reducible assumption) | assumption)
         have q607 : x7_1 < (l0.length : Int) := of_decide_eq_true (by first | (with_reducible assumption) | assumption)
         obtain ⟨ad607, e607, hx607_0, hx607_1⟩ := at_T151 HR0.out x7_1 p607 q607
         cases e607
         replace hx607_0 := (HB.out.cell (World.block_lt_of_cell? w _ hx607_0)).trans hx607_0
         replace hx607_1 := (HB.out.cell (World.block_lt_of_cell? w _ hx607_1)).trans hx607_1
         replace p607 := eq_true p607
         replace q607 := eq_true q607
         try go_wp2_with (first | ((with_reducible refine gate_dst (N := 4) rfl ?_); refine box_event ?hg (N := 4) ?hd (cs := #[.int .i64 0, .int .i64 0]) (t := 151) ?hr ?_; (case hd => rfl); (case hg => rfl); (case hr => first | (go_simp; done) | (go_simp; rfl)); intro gb608 hg w75 hbox hb; have n0_ := Aside0.mk (below_step (by repeat (first | (with_reducible first | exact HB.out | apply below_alloc | apply pw_below_drewN | apply below_drew1) | exact HB.out)) hb); have n1_ := Aside0.mk (hbox); have n2_ := Aside0.mk ((by rw [hg]; exact (below_size (by repeat (first | (with_reducible first | exact HB.out | apply below_alloc | apply pw_below_drewN | apply below_drew1) | exact HB.out))) : w.heap.size ≤ gb608)); have n3_ := Aside0.mk ((by rw [hg]; exact (below_size (by repeat (first | (with_reducible first | exact HB.out | apply below_alloc | apply pw_below_drewN | apply below_drew1) | exact HB.out))) : w.heap.size ≤ gb608)); clear HB; have HB := n0_; have BK608 := n1_; have GW608 := n2_; have GE608 := n3_; clear n0_ n1_ n2_ n3_; clear hb hbox hg; have hcz76_0 : w75.cell? ⟨gb608, 0, none⟩ = some (.int .i64 0) := (blk_cell BK608.out 0).trans rfl; have hcz76_1 : w75.cell? ⟨gb608, 1, none⟩ = some (.int .i64 0) := (blk_cell BK608.out 1).trans rfl; have hfz76_0 := blk_frozen BK608.out 0; have hfz76_1 := blk_frozen BK608.out 1))
         have n0_ : Aside0 (((w75.setCell ⟨gb608, 0, none⟩ (.int .i64 ((rd_T151 l0 x7_1).f0))).setCell ⟨gb608, 1, none⟩ (.int .i64 ((rd_T151 l0 x7_1).f1))).heap[gb608]? = some (.cells #[.int .i64 ((rd_T151 l0 x7_1).f0), .int .i64 ((rd_T151 l0 x7_1).f1)] 151 (0, 0))) := ⟨by (with_reducible repeat (first | refine blk_drewN ?_ _ | refine blk_drew ?_ | refine blk_alloc ?_ _)); refine blk_put (cs := #[.int .i64 ((rd_T151 l0 x7_1).f0), .int .i64 0]) ?_ 1 _ rfl; (with_reducible repeat (first | refine blk_drewN ?_ _ | refine blk_drew ?_ | refine blk_alloc ?_ _)); refine blk_put (cs := #[.int .i64 0, .int .i64 0]) ?_ 0 _ rfl; (with_reducible repeat (first | refine blk_drewN ?_ _ | refine blk_drew ?_ | refine blk_alloc ?_ _)); exact BK608.out⟩
         have n1_ : Aside0 (Below w.heap.size w ((w75.setCell ⟨gb608, 0, none⟩ (.int .i64 ((rd_T151 l0 x7_1).f0))).setCell ⟨gb608, 1, none⟩ (.int .i64 ((rd_T151 l0 x7_1).f1)))) := ⟨by repeat (first | (with_reducible first | exact HB.out | apply below_alloc | apply pw_below_drewN | apply below_drew1 | refine below_set ?_ GE608.out) | exact HB.out)⟩
         (try clear BK608)
         (try clear HB)
         generalize ((w75.setCell ⟨gb608, 0, none⟩ (.int .i64 ((rd_T151 l0 x7_1).f0))).setCell ⟨gb608, 1, none⟩ (.int .i64 ((rd_T151 l0 x7_1).f1))) = w77 at n0_ n1_ ⊢
         have BK608 := n0_
         have HB := n1_
         clear n0_ n1_
         have n0_ := Aside0.mk (blk_drew BK608.out)
         have n1_ := Aside0.mk (below_drew1 HB.out)
         clear BK608
         clear HB
         have BK608 := n0_
         have HB := n1_
         clear n0_ n1_
         have hq0_ : w77.cell? ⟨gb608, 0, none⟩ = some (.int .i64 ((rd_T151 l0 x7_1).f0)) := (blk_cell BK608.out 0).trans rfl
         have hq1_ : w77.cell? ⟨gb608, 1, none⟩ = some (.int .i64 ((rd_T151 l0 x7_1).f1)) := (blk_cell BK608.out 1).trans rfl
         go_quiet (fail)
         have nBK608_ := Aside0.mk (blk_drewN (w := w77) BK608.out nq)
         have nHB_ := Aside0.mk (pw_below_drewN (W := w77) ⟨HB.out.os, HB.out.tape, HB.out.output, HB.out.size, HB.out.block⟩ nq)
         clear BK608 HB hq0_ hq1_
         have BK608 := nBK608_
         have HB := nHB_
         clear nBK608_ nHB_
         generalize w77.drewN nq = w78 at BK608 HB ⊢
         try go_wp2
         go_ret
         exact ⟨by first | rfl | (simp [errW_none, errW_some] <;> rfl) | (simp [*, errW_none, errW_some] <;> rfl), by repeat (first | (with_reducible first | exact HB.out | apply below_alloc | apply pw_below_drewN | apply below_drew1 | refine below_set ?_ GE608.out) | exact HB.out)⟩
        ·
         rw [if_neg c74] at H
         have c74b0 : decide (2000 < ((rd_T151 l0 x7_1).f0)) = false := decide_eq_false c74
         clear c74
         replace H := Option.bind_eq_some_iff.mp H
         obtain ⟨t614, A790, H⟩ := H
         try dsimp only at H
         have A79 := Aside0.mk A790
         clear A790
         by_cases c80 : t614 = true
         ·
          subst c80
          rw [if_pos rfl] at H
          have H' := Aside0.mk H
          clear H
          have p607 : 0 ≤ (x7_1 : Int) := of_decide_eq_true (by first | (with_reducible assumption) | assumption)
          have q607 : x7_1 < (l0.length : Int) := of_decide_eq_true (by first | (with_reducible assumption) | assumption)
          obtain ⟨ad607, e607, hx607_0, hx607_1⟩ := at_T151 HR0.out x7_1 p607 q607
          cases e607
          replace hx607_0 := (HB.out.cell (World.block_lt_of_cell? w _ hx607_0)).trans hx607_0
          replace hx607_1 := (HB.out.cell (World.block_lt_of_cell? w _ hx607_1)).trans hx607_1
          replace p607 := eq_true p607
          replace q607 := eq_true q607
          try go_wp2_with (first | ((with_reducible refine gate_dst (N := 4) rfl ?_); refine box_event ?hg (N := 4) ?hd (cs := #[.int .i64 0, .int .i64 0]) (t := 151) ?hr ?_; (case hd => rfl); (case hg => rfl); (case hr => first | (go_simp; done) | (go_simp; rfl)); intro gb608 hg w81 hbox hb; have n0_ := Aside0.mk (below_step (by repeat (first | (with_reducible first | exact HB.out | apply below_alloc | apply pw_below_drewN | apply below_drew1) | exact HB.out)) hb); have n1_ := Aside0.mk (hbox); have n2_ := Aside0.mk ((by rw [hg]; exact (below_size (by repeat (first | (with_reducible first | exact HB.out | apply below_alloc | apply pw_below_drewN | apply below_drew1) | exact HB.out))) : w.heap.size ≤ gb608)); have n3_ := Aside0.mk ((by rw [hg]; exact (below_size (by repeat (first | (with_reducible first | exact HB.out | apply below_alloc | apply pw_below_drewN | apply below_drew1) | exact HB.out))) : w.heap.size ≤ gb608)); clear HB; have HB := n0_; have BK608 := n1_; have GW608 := n2_; have GE608 := n3_; clear n0_ n1_ n2_ n3_; clear hb hbox hg; have hcz82_0 : w81.cell? ⟨gb608, 0, none⟩ = some (.int .i64 0) := (blk_cell BK608.out 0).trans rfl; have hcz82_1 : w81.cell? ⟨gb608, 1, none⟩ = some (.int .i64 0) := (blk_cell BK608.out 1).trans rfl; have hfz82_0 := blk_frozen BK608.out 0; have hfz82_1 := blk_frozen BK608.out 1))
          have n0_ : Aside0 (((w81.setCell ⟨gb608, 0, none⟩ (.int .i64 ((rd_T151 l0 x7_1).f0))).setCell ⟨gb608, 1, none⟩ (.int .i64 ((rd_T151 l0 x7_1).f1))).heap[gb608]? = some (.cells #[.int .i64 ((rd_T151 l0 x7_1).f0), .int .i64 ((rd_T151 l0 x7_1).f1)] 151 (0, 0))) := ⟨by (with_reducible repeat (first | refine blk_drewN ?_ _ | refine blk_drew ?_ | refine blk_alloc ?_ _)); refine blk_put (cs := #[.int .i64 ((rd_T151 l0 x7_1).f0), .int .i64 0]) ?_ 1 _ rfl; (with_reducible repeat (first | refine blk_drewN ?_ _ | refine blk_drew ?_ | refine blk_alloc ?_ _)); refine blk_put (cs := #[.int .i64 0, .int .i64 0]) ?_ 0 _ rfl; (with_reducible repeat (first | refine blk_drewN ?_ _ | refine blk_drew ?_ | refine blk_alloc ?_ _)); exact BK608.out⟩
          have n1_ : Aside0 (Below w.heap.size w ((w81.setCell ⟨gb608, 0, none⟩ (.int .i64 ((rd_T151 l0 x7_1).f0))).setCell ⟨gb608, 1, none⟩ (.int .i64 ((rd_T151 l0 x7_1).f1)))) := ⟨by repeat (first | (with_reducible first | exact HB.out | apply below_alloc | apply pw_below_drewN | apply below_drew1 | refine below_set ?_ GE608.out) | exact HB.out)⟩
          (try clear BK608)
          (try clear HB)
          generalize ((w81.setCell ⟨gb608, 0, none⟩ (.int .i64 ((rd_T151 l0 x7_1).f0))).setCell ⟨gb608, 1, none⟩ (.int .i64 ((rd_T151 l0 x7_1).f1))) = w83 at n0_ n1_ ⊢
          have BK608 := n0_
          have HB := n1_
          clear n0_ n1_
          have n0_ := Aside0.mk (blk_drew BK608.out)
          have n1_ := Aside0.mk (below_drew1 HB.out)
          clear BK608
          clear HB
          have BK608 := n0_
          have HB := n1_
          clear n0_ n1_
          have hq0_ : w83.cell? ⟨gb608, 0, none⟩ = some (.int .i64 ((rd_T151 l0 x7_1).f0)) := (blk_cell BK608.out 0).trans rfl
          have hq1_ : w83.cell? ⟨gb608, 1, none⟩ = some (.int .i64 ((rd_T151 l0 x7_1).f1)) := (blk_cell BK608.out 1).trans rfl
          go_quiet ((first | (go_at_call 86; apply Calls.quiet_of; ((with_reducible refine (impl_InRange.calls ((rd_T151 l0 x7_1).f1) 20 300 true _ A79.out).mono ?_); exact fun _ _ h_ => ⟨h_.1, h_.2.out⟩))))
          have nBK608_ := Aside0.mk (blk_drewN (w := w83) BK608.out nq)
          have nHB_ := Aside0.mk (pw_below_drewN (W := w83) ⟨HB.out.os, HB.out.tape, HB.out.output, HB.out.size, HB.out.block⟩ nq)
          clear BK608 HB hq0_ hq1_
          have BK608 := nBK608_
          have HB := nHB_
          clear nBK608_ nHB_
          generalize w83.drewN nq = w84 at BK608 HB ⊢
          try go_wp2
          go_roundg k1
          case measure => have := HK1.out; omega
          case rel => exact ⟨(wrap64 (x7_1 + 1)), (by first | rfl | (simp; done) | (simp [*]; done)), H', ⟨by have := HK1.out; omega⟩, ⟨by repeat (first | (with_reducible first | exact HB.out | apply below_alloc | apply pw_below_drewN | apply below_drew1 | refine below_set ?_ GE608.out) | exact HB.out)⟩⟩
         ·
          replace c80 := Bool.eq_false_iff.mpr c80
          subst c80
          rw [if_neg (show ¬ (false = true) by decide)] at H
          obtain rfl := Option.some.inj H
          have p607 : 0 ≤ (x7_1 : Int) := of_decide_eq_true (by first | (with_reducible assumption) | assumption)
          have q607 : x7_1 < (l0.length : Int) := of_decide_eq_true (by first | (with_reducible assumption) | assumption)
          obtain ⟨ad607, e607, hx607_0, hx607_1⟩ := at_T151 HR0.out x7_1 p607 q607
          cases e607
          replace hx607_0 := (HB.out.cell (World.block_lt_of_cell? w _ hx607_0)).trans hx607_0
          replace hx607_1 := (HB.out.cell (World.block_lt_of_cell? w _ hx607_1)).trans hx607_1
          replace p607 := eq_true p607
          replace q607 := eq_true q607
          try go_wp2_with (first | ((with_reducible refine gate_dst (N := 4) rfl ?_); refine box_event ?hg (N := 4) ?hd (cs := #[.int .i64 0, .int .i64 0]) (t := 151) ?hr ?_; (case hd => rfl); (case hg => rfl); (case hr => first | (go_simp; done) | (go_simp; rfl)); intro gb608 hg w85 hbox hb; have n0_ := Aside0.mk (below_step (by repeat (first | (with_reducible first | exact HB.out | apply below_alloc | apply pw_below_drewN | apply below_drew1) | exact HB.out)) hb); have n1_ := Aside0.mk (hbox); have n2_ := Aside0.mk ((by rw [hg]; exact (below_size (by repeat (first | (with_reducible first | exact HB.out | apply below_alloc | apply pw_below_drewN | apply below_drew1) | exact HB.out))) : w.heap.size ≤ gb608)); have n3_ := Aside0.mk ((by rw [hg]; exact (below_size (by repeat (first | (with_reducible first | exact HB.out | apply below_alloc | apply pw_below_drewN | apply below_drew1) | exact HB.out))) : w.heap.size ≤ gb608)); clear HB; have HB := n0_; have BK608 := n1_; have GW608 := n2_; have GE608 := n3_; clear n0_ n1_ n2_ n3_; clear hb hbox hg; have hcz86_0 : w85.cell? ⟨gb608, 0, none⟩ = some (.int .i64 0) := (blk_cell BK608.out 0).trans rfl; have hcz86_1 : w85.cell? ⟨gb608, 1, none⟩ = some (.int .i64 0) := (blk_cell BK608.out 1).trans rfl; have hfz86_0 := blk_frozen BK608.out 0; have hfz86_1 := blk_frozen BK608.out 1))
          have n0_ : Aside0 (((w85.setCell ⟨gb608, 0, none⟩ (.int .i64 ((rd_T151 l0 x7_1).f0))).setCell ⟨gb608, 1, none⟩ (.int .i64 ((rd_T151 l0 x7_1).f1))).heap[gb608]? = some (.cells #[.int .i64 ((rd_T151 l0 x7_1).f0), .int .i64 ((rd_T151 l0 x7_1).f1)] 151 (0, 0))) := ⟨by (with_reducible repeat (first | refine blk_drewN ?_ _ | refine blk_drew ?_ | refine blk_alloc ?_ _)); refine blk_put (cs := #[.int .i64 ((rd_T151 l0 x7_1).f0), .int .i64 0]) ?_ 1 _ rfl; (with_reducible repeat (first | refine blk_drewN ?_ _ | refine blk_drew ?_ | refine blk_alloc ?_ _)); refine blk_put (cs := #[.int .i64 0, .int .i64 0]) ?_ 0 _ rfl; (with_reducible repeat (first | refine blk_drewN ?_ _ | refine blk_drew ?_ | refine blk_alloc ?_ _)); exact BK608.out⟩
          have n1_ : Aside0 (Below w.heap.size w ((w85.setCell ⟨gb608, 0, none⟩ (.int .i64 ((rd_T151 l0 x7_1).f0))).setCell ⟨gb608, 1, none⟩ (.int .i64 ((rd_T151 l0 x7_1).f1)))) := ⟨by repeat (first | (with_reducible first | exact HB.out | apply below_alloc | apply pw_below_drewN | apply below_drew1 | refine below_set ?_ GE608.out) | exact HB.out)⟩
          (try clear BK608)
          (try clear HB)
          generalize ((w85.setCell ⟨gb608, 0, none⟩ (.int .i64 ((rd_T151 l0 x7_1).f0))).setCell ⟨gb608, 1, none⟩ (.int .i64 ((rd_T151 l0 x7_1).f1))) = w87 at n0_ n1_ ⊢
          have BK608 := n0_
          have HB := n1_
          clear n0_ n1_
          have n0_ := Aside0.mk (blk_drew BK608.out)
          have n1_ := Aside0.mk (below_drew1 HB.out)
          clear BK608
          clear HB
          have BK608 := n0_
          have HB := n1_
          clear n0_ n1_
          have hq0_ : w87.cell? ⟨gb608, 0, none⟩ = some (.int .i64 ((rd_T151 l0 x7_1).f0)) := (blk_cell BK608.out 0).trans rfl
          have hq1_ : w87.cell? ⟨gb608, 1, none⟩ = some (.int .i64 ((rd_T151 l0 x7_1).f1)) := (blk_cell BK608.out 1).trans rfl
          go_quiet ((first | (go_at_call 86; apply Calls.quiet_of; ((with_reducible refine (impl_InRange.calls ((rd_T151 l0 x7_1).f1) 20 300 false _ A79.out).mono ?_); exact fun _ _ h_ => ⟨h_.1, h_.2.out⟩))))
          have nBK608_ := Aside0.mk (blk_drewN (w := w87) BK608.out nq)
          have nHB_ := Aside0.mk (pw_below_drewN (W := w87) ⟨HB.out.os, HB.out.tape, HB.out.output, HB.out.size, HB.out.block⟩ nq)
          clear BK608 HB hq0_ hq1_
          have BK608 := nBK608_
          have HB := nHB_
          clear nBK608_ nHB_
          generalize w87.drewN nq = w88 at BK608 HB ⊢
          try go_wp2
          go_ret
          exact ⟨by first | rfl | (simp [errW_none, errW_some] <;> rfl) | (simp [*, errW_none, errW_some] <;> rfl), by repeat (first | (with_reducible first | exact HB.out | apply below_alloc | apply pw_below_drewN | apply below_drew1 | refine below_set ?_ GE608.out) | exact HB.out)⟩
     ·
      rw [if_neg c4] at H
      exact absurd H (by simp)
    ·
     rw [if_neg c3] at H
     exact absurd H (by simp)
   ·
    rw [if_neg c2] at H
    have c2b0 : decide (x7_1 < (l0.length : Int)) = false := decide_eq_false c2
    clear c2
    replace H := Option.bind_eq_some_iff.mp H
    obtain ⟨t615, A890, H⟩ := H
    try dsimp only at H
    have A89 := Aside0.mk A890
    clear A890
    obtain rfl := Option.some.inj H
    go_wp2_with (first | ((with_reducible refine gate_callee (f := 86) rfl ?_); refine goesL_ (some 48) rfl rfl Try.func86 (by kernel_rfl) rfl #[.int .i64 (l0.length : Int), .int .i64 1, .int .i64 8] rfl (by (try simp only [List.map_toArray, List.map_cons, List.map_nil]); first | done | rfl | (simp only [List.length_drop, List.length_take]; rfl)) ?_; (with_reducible refine (impl_InRange.calls (l0.length : Int) 1 8 t615 _ A89.out).mono ?_); rintro e w' ⟨rfl, ⟨nd, rfl⟩⟩; refine ⟨_, rfl, ?_⟩))
    go_ret
    exact ⟨by first | rfl | (simp [errW_none, errW_some] <;> rfl) | (simp [*, errW_none, errW_some] <;> rfl), by repeat (first | (with_reducible first | exact HB.out | apply below_alloc | apply pw_below_drewN | apply below_drew1) | exact HB.out)⟩
end Go.Proofs.Ytbhlmeghbfmgiaa.F

namespace Go.Proofs.Ytbhlmeghbfmgiaa.F
open Go.RowKit Go.Proofs.YtbhlmeghbfmgiaaW.PrintWords Go.Proofs.YtbhlmeghbfmgiaaW.PrintLast Go.Proofs.YtbhlmeghbfmgiaaW.PrintMore
attribute [local go_sem] max2_int min2_int max_two min_two max_three min_three max_four min_four
set_option linter.unusedVariables false
set_option linter.unusedSimpArgs false
def impl_divisor.l0 : Nat → Int → Int → Option (Int)
 | 0, _, _ => none
 | k + 1, x0, x1 => if x1 = 0 then (some x0) else (impl_divisor.l0 k x1 (Int.tmod x0 x1))
def impl_divisor.f (k : Nat) (a0 : Int) (a1 : Int) : Option (Int) := impl_divisor.l0 k a0 a1
set_option maxHeartbeats 8000000 in
set_option maxRecDepth 100000 in
theorem impl_divisor.calls (k : Nat) (a0 : Int) (a1 : Int) (r : Int) (w : World) (h : impl_divisor.f k a0 a1 = some r) :
  Calls Try.prog 123 #[.int .i64 a0, .int .i64 a1] w fun e w' => e = .returned (.int .i64 r) ∧ Drawn0 w w' := by
 have H : (impl_divisor.l0 k a0 a1) = some r := h
 clear h
 have H' := Aside0.mk H
 clear H
 go_enter Try.func123, Try.ntmps123
 go_wp2
 repeat (go_quiet (fail); try go_wp2)
 go_loopg [0, 1] k (fun kq v0 v1 w' => ∃ (x0_1 : Int) (x1_1 : Int), v0 = .int .i64 x0_1 ∧ v1 = .int .i64 x1_1 ∧ Aside0 (impl_divisor.l0 kq x0_1 x1_1 = some r) ∧ Aside0 (kq ≤ k) ∧ Drawn0 w w')
 case atStart => exact ⟨(a0), (a1), (by first | rfl | (simp; done) | (simp [*]; done)), (by first | rfl | (simp; done) | (simp [*]; done)), H', ⟨Nat.le_refl _⟩, by repeat (first | exact Drawn0.refl _ | apply Drawn0.step)⟩
 case round =>
  clear H'
  try clear c1
  try clear p2
  obtain ⟨x0_1, x1_1, rfl, rfl, HA, HK1, ⟨m1, rfl⟩⟩ := hrel
  cases gk with
  | zero => exact absurd HA.out (by simp [impl_divisor.l0])
  | succ k1 =>
   have H := HA.out
   clear HA
   simp only [impl_divisor.l0] at H
   by_cases c3 : x1_1 = 0
   ·
    rw [if_pos c3] at H
    have c3b0 : (x1_1 == 0) = true := beq_iff_eq.mpr c3
    have c3b1 : (x1_1 != 0) = false := bne_eq_false_iff_eq.mpr c3
    clear c3
    obtain rfl := Option.some.inj H
    go_wp2
    repeat (go_quiet (fail); try go_wp2)
    go_ret
    exact ⟨by first | rfl | (simp; done) | (simp [*]; done), by repeat (first | exact Drawn0.refl _ | apply Drawn0.step)⟩
   ·
    rw [if_neg c3] at H
    have c3b0 : (x1_1 == 0) = false := beq_eq_false_iff_ne.mpr c3
    have c3b1 : (x1_1 != 0) = true := bne_iff_ne.mpr c3
    have H' := Aside0.mk H
    clear H
    go_wp2
    repeat (go_quiet (fail); try go_wp2)
    go_roundg k1
    case measure => have := HK1.out; omega
    case rel => exact ⟨(x1_1), (Int.tmod x0_1 x1_1), (by first | rfl | (simp; done) | (simp [*]; done)), (by first | rfl | (simp; done) | (simp [*]; done)), H', ⟨by have := HK1.out; omega⟩, by repeat (first | exact Drawn0.refl _ | apply Drawn0.step)⟩
end Go.Proofs.Ytbhlmeghbfmgiaa.F

namespace Go.Proofs.Ytbhlmeghbfmgiaa.F
open Go.RowKit Go.Proofs.YtbhlmeghbfmgiaaW.PrintWords Go.Proofs.YtbhlmeghbfmgiaaW.PrintLast Go.Proofs.YtbhlmeghbfmgiaaW.PrintMore
attribute [local go_sem] max2_int min2_int max_two min_two max_three min_three max_four min_four
set_option linter.unusedVariables false
set_option linter.unusedSimpArgs false
def impl_IsRatio.f (k : Nat) (a0_0 : Int) (a0_1 : Int) : Option (Bool) := (impl_InRange.f a0_1 1 1000000).bind fun t617 => (if t617 = true then ((impl_InRange.f a0_0 (-1000000000) 1000000000).bind fun t618 => (if t618 = true then ((impl_divisor.f k (mx a0_0 (wrap64 (-a0_0))) a0_1).bind fun t619 => (some (t619 == 1))) else (some false))) else (some false))
set_option maxHeartbeats 8000000 in
set_option maxRecDepth 100000 in
theorem impl_IsRatio.calls (k : Nat) (a0_0 : Int) (a0_1 : Int) (r : Bool) (w : World) (h : impl_IsRatio.f k a0_0 a0_1 = some r) :
  Calls Try.prog 62 #[.agg #[.int .i64 a0_0, .int .i64 a0_1]] w fun e w' => e = .returned (.bool r) ∧ Below w.heap.size w w' := by
 have hu95 := Try.underlying95
 have HB := Aside0.mk (Below.refl w.heap.size w)
 have H : ((impl_InRange.f a0_1 1 1000000).bind fun t617 => (if t617 = true then ((impl_InRange.f a0_0 (-1000000000) 1000000000).bind fun t618 => (if t618 = true then ((impl_divisor.f k (mx a0_0 (wrap64 (-a0_0))) a0_1).bind fun t619 => (some (t619 == 1))) else (some false))) else (some false))) = some r := h
 clear h
 replace H := Option.bind_eq_some_iff.mp H
 obtain ⟨t617, A20, H⟩ := H
 try dsimp only at H
 have A2 := Aside0.mk A20
 clear A20
 by_cases c3 : t617 = true
 ·
  subst c3
  rw [if_pos rfl] at H
  replace H := Option.bind_eq_some_iff.mp H
  obtain ⟨t618, A40, H⟩ := H
  try dsimp only at H
  have A4 := Aside0.mk A40
  clear A40
  by_cases c5 : t618 = true
  ·
   subst c5
   rw [if_pos rfl] at H
   obtain ⟨ji6, hji6⟩ : ∃ j_ : Int, (mx a0_0 (wrap64 (-a0_0))) = j_ := ⟨_, rfl⟩
   replace H : ((impl_divisor.f k (ji6) a0_1).bind fun t619 => (some (t619 == 1))) = some r := by first | (rw [hji6] at H; exact H) | (simp only [hji6] at H ⊢; exact H)
   (try rw [hji6] at A2)
   (try rw [hji6] at A4)
   have hji6_ : (if a0_0 < (wrap64 (-a0_0)) then (wrap64 (-a0_0)) else a0_0) = ji6 := hji6
   replace H := Option.bind_eq_some_iff.mp H
   obtain ⟨t619, A70, H⟩ := H
   try dsimp only at H
   have A7 := Aside0.mk A70
   clear A70
   obtain rfl := Option.some.inj H
   go_enter Try.func62, Try.ntmps62
   go_wp2_with (first | ((with_reducible refine gate_dst (N := 1) rfl ?_); (try (refine gate_guard (by rfl) ?_; dsimp only)); refine box_event ?hg (N := 1) ?hd (cs := #[.int .i64 a0_0, .int .i64 a0_1]) (t := 95) ?hr ?_; (case hd => rfl); (case hg => rfl); (case hr => first | (go_simp; done) | (go_simp; rfl)); intro gb616 hg w8 hbox hb; have n0_ := Aside0.mk (below_step (by repeat (first | (with_reducible first | exact HB.out | apply below_alloc | apply pw_below_drewN | apply below_drew1) | exact HB.out)) hb); have n1_ := Aside0.mk (hbox); have n2_ := Aside0.mk ((by rw [hg]; exact (below_size (by repeat (first | (with_reducible first | exact HB.out | apply below_alloc | apply pw_below_drewN | apply below_drew1) | exact HB.out))) : w.heap.size ≤ gb616)); have n3_ := Aside0.mk ((by rw [hg]; exact (below_size (by repeat (first | (with_reducible first | exact HB.out | apply below_alloc | apply pw_below_drewN | apply below_drew1) | exact HB.out))) : w.heap.size ≤ gb616)); clear HB; have HB := n0_; have BK616 := n1_; have GW616 := n2_; have GE616 := n3_; clear n0_ n1_ n2_ n3_; clear hb hbox hg; have hcz9_0 : w8.cell? ⟨gb616, 0, none⟩ = some (.int .i64 a0_0) := (blk_cell BK616.out 0).trans rfl; have hcz9_1 : w8.cell? ⟨gb616, 1, none⟩ = some (.int .i64 a0_1) := (blk_cell BK616.out 1).trans rfl; have hfz9_0 := blk_frozen BK616.out 0; have hfz9_1 := blk_frozen BK616.out 1) | ((with_reducible refine gate_callee (f := 86) rfl ?_); refine goesL_ (some 5) rfl rfl Try.func86 (by kernel_rfl) rfl #[.int .i64 a0_1, .int .i64 1, .int .i64 1000000] rfl (by (try simp only [List.map_toArray, List.map_cons, List.map_nil]); first | done | rfl | (simp only [List.length_drop, List.length_take]; rfl)) ?_; (with_reducible refine (impl_InRange.calls a0_1 1 1000000 true _ A2.out).mono ?_); rintro e w' ⟨rfl, ⟨nd, rfl⟩⟩; refine ⟨_, rfl, ?_⟩) | (go_at_call 86; (with_reducible refine (impl_InRange.calls a0_0 (-1000000000) 1000000000 true _ A4.out).mono ?_); rintro e w' ⟨rfl, ⟨nd, rfl⟩⟩) | (go_at_call 123; (with_reducible refine (impl_divisor.calls k ji6 a0_1 t619 _ A7.out).mono ?_); rintro e w' ⟨rfl, ⟨nd, rfl⟩⟩))
   go_ret
   exact ⟨by first | rfl | (simp [errW_none, errW_some] <;> rfl) | (simp only [← hji6]; first | rfl | (simp [errW_none, errW_some] <;> rfl)) | (simp [*, errW_none, errW_some] <;> rfl), by repeat (first | (with_reducible first | exact HB.out | apply below_alloc | apply pw_below_drewN | apply below_drew1 | refine below_set ?_ GE616.out) | exact HB.out)⟩
  ·
   replace c5 := Bool.eq_false_iff.mpr c5
   subst c5
   rw [if_neg (show ¬ (false = true) by decide)] at H
   obtain rfl := Option.some.inj H
   go_enter Try.func62, Try.ntmps62
   go_wp2_with (first | ((with_reducible refine gate_dst (N := 1) rfl ?_); (try (refine gate_guard (by rfl) ?_; dsimp only)); refine box_event ?hg (N := 1) ?hd (cs := #[.int .i64 a0_0, .int .i64 a0_1]) (t := 95) ?hr ?_; (case hd => rfl); (case hg => rfl); (case hr => first | (go_simp; done) | (go_simp; rfl)); intro gb616 hg w10 hbox hb; have n0_ := Aside0.mk (below_step (by repeat (first | (with_reducible first | exact HB.out | apply below_alloc | apply pw_below_drewN | apply below_drew1) | exact HB.out)) hb); have n1_ := Aside0.mk (hbox); have n2_ := Aside0.mk ((by rw [hg]; exact (below_size (by repeat (first | (with_reducible first | exact HB.out | apply below_alloc | apply pw_below_drewN | apply below_drew1) | exact HB.out))) : w.heap.size ≤ gb616)); have n3_ := Aside0.mk ((by rw [hg]; exact (below_size (by repeat (first | (with_reducible first | exact HB.out | apply below_alloc | apply pw_below_drewN | apply below_drew1) | exact HB.out))) : w.heap.size ≤ gb616)); clear HB; have HB := n0_; have BK616 := n1_; have GW616 := n2_; have GE616 := n3_; clear n0_ n1_ n2_ n3_; clear hb hbox hg; have hcz11_0 : w10.cell? ⟨gb616, 0, none⟩ = some (.int .i64 a0_0) := (blk_cell BK616.out 0).trans rfl; have hcz11_1 : w10.cell? ⟨gb616, 1, none⟩ = some (.int .i64 a0_1) := (blk_cell BK616.out 1).trans rfl; have hfz11_0 := blk_frozen BK616.out 0; have hfz11_1 := blk_frozen BK616.out 1) | ((with_reducible refine gate_callee (f := 86) rfl ?_); refine goesL_ (some 5) rfl rfl Try.func86 (by kernel_rfl) rfl #[.int .i64 a0_1, .int .i64 1, .int .i64 1000000] rfl (by (try simp only [List.map_toArray, List.map_cons, List.map_nil]); first | done | rfl | (simp only [List.length_drop, List.length_take]; rfl)) ?_; (with_reducible refine (impl_InRange.calls a0_1 1 1000000 true _ A2.out).mono ?_); rintro e w' ⟨rfl, ⟨nd, rfl⟩⟩; refine ⟨_, rfl, ?_⟩) | (go_at_call 86; (with_reducible refine (impl_InRange.calls a0_0 (-1000000000) 1000000000 false _ A4.out).mono ?_); rintro e w' ⟨rfl, ⟨nd, rfl⟩⟩))
   go_ret
   exact ⟨by first | rfl | (simp [errW_none, errW_some] <;> rfl) | (simp [*, errW_none, errW_some] <;> rfl), by repeat (first | (with_reducible first | exact HB.out | apply below_alloc | apply pw_below_drewN | apply below_drew1 | refine below_set ?_ GE616.out) | exact HB.out)⟩
 ·
  replace c3 := Bool.eq_false_iff.mpr c3
  subst c3
  rw [if_neg (show ¬ (false = true) by decide)] at H
  obtain rfl := Option.some.inj H
  go_enter Try.func62, Try.ntmps62
  go_wp2_with (first | ((with_reducible refine gate_dst (N := 1) rfl ?_); (try (refine gate_guard (by rfl) ?_; dsimp only)); refine box_event ?hg (N := 1) ?hd (cs := #[.int .i64 a0_0, .int .i64 a0_1]) (t := 95) ?hr ?_; (case hd => rfl); (case hg => rfl); (case hr => first | (go_simp; done) | (go_simp; rfl)); intro gb616 hg w12 hbox hb; have n0_ := Aside0.mk (below_step (by repeat (first | (with_reducible first | exact HB.out | apply below_alloc | apply pw_below_drewN | apply below_drew1) | exact HB.out)) hb); have n1_ := Aside0.mk (hbox); have n2_ := Aside0.mk ((by rw [hg]; exact (below_size (by repeat (first | (with_reducible first | exact HB.out | apply below_alloc | apply pw_below_drewN | apply below_drew1) | exact HB.out))) : w.heap.size ≤ gb616)); have n3_ := Aside0.mk ((by rw [hg]; exact (below_size (by repeat (first | (with_reducible first | exact HB.out | apply below_alloc | apply pw_below_drewN | apply below_drew1) | exact HB.out))) : w.heap.size ≤ gb616)); clear HB; have HB := n0_; have BK616 := n1_; have GW616 := n2_; have GE616 := n3_; clear n0_ n1_ n2_ n3_; clear hb hbox hg; have hcz13_0 : w12.cell? ⟨gb616, 0, none⟩ = some (.int .i64 a0_0) := (blk_cell BK616.out 0).trans rfl; have hcz13_1 : w12.cell? ⟨gb616, 1, none⟩ = some (.int .i64 a0_1) := (blk_cell BK616.out 1).trans rfl; have hfz13_0 := blk_frozen BK616.out 0; have hfz13_1 := blk_frozen BK616.out 1) | ((with_reducible refine gate_callee (f := 86) rfl ?_); refine goesL_ (some 5) rfl rfl Try.func86 (by kernel_rfl) rfl #[.int .i64 a0_1, .int .i64 1, .int .i64 1000000] rfl (by (try simp only [List.map_toArray, List.map_cons, List.map_nil]); first | done | rfl | (simp only [List.length_drop, List.length_take]; rfl)) ?_; (with_reducible refine (impl_InRange.calls a0_1 1 1000000 false _ A2.out).mono ?_); rintro e w' ⟨rfl, ⟨nd, rfl⟩⟩; refine ⟨_, rfl, ?_⟩))
  go_ret
  exact ⟨by first | rfl | (simp [errW_none, errW_some] <;> rfl) | (simp [*, errW_none, errW_some] <;> rfl), by repeat (first | (with_reducible first | exact HB.out | apply below_alloc | apply pw_below_drewN | apply below_drew1 | refine below_set ?_ GE616.out) | exact HB.out)⟩
end Go.Proofs.Ytbhlmeghbfmgiaa.F

namespace Go.Proofs.Ytbhlmeghbfmgiaa.F
open Go.RowKit Go.Proofs.YtbhlmeghbfmgiaaW.PrintWords Go.Proofs.YtbhlmeghbfmgiaaW.PrintLast Go.Proofs.YtbhlmeghbfmgiaaW.PrintMore
attribute [local go_sem] max2_int min2_int max_two min_two max_three min_three max_four min_four
set_option linter.unusedVariables false
set_option linter.unusedSimpArgs false
def impl_lowest.j0 : Nat → Int → Int → Option (Int × Int × Bool)
 | 0, _, _ => none
 | k + 1, x0, x1 => if x1 = 0 then (some (0, 0, false)) else ((impl_divisor.f k (mx x0 (wrap64 (-x0))) x1).bind fun t621 => (if t621 = 0 then (none) else ((impl_IsRatio.f k (wrap64 (Int.tdiv x0 t621)) (wrap64 (Int.tdiv x1 t621))).bind fun t623 => (if t623 = true then (some (wrap64 (Int.tdiv x0 t621), wrap64 (Int.tdiv x1 t621), true)) else (some (0, 0, false))))))
def impl_lowest.f (k : Nat) (a0 : Int) (a1 : Int) : Option (Int × Int × Bool) := if a1 < 0 then (impl_lowest.j0 k (wrap64 (-a0)) (wrap64 (-a1))) else (impl_lowest.j0 k a0 a1)
def impl_lowest.T6 : Bool × List (List Nat × List Nat) := (true, [([], []), ([], []), ([0, 1], [0, 1]), ([], []), ([], []), ([3, 4], [3, 4]), ([2, 5], [2, 5]), ([], []), ([7, 6, 0, 1, 2, 3, 4, 5, 6, 7], [6, 7])])
def impl_lowest.B6 : List Nat := [0, 0, 3, 0, 0, 24, 63, 0, 255]
theorem impl_lowest.tab6 : rtab .any (opsOf Try.f154 6) = impl_lowest.T6 := by kernel_rfl
theorem impl_lowest.bits6 : waitsOk impl_lowest.T6.2 impl_lowest.B6 = true := by kernel_rfl
set_option maxHeartbeats 8000000 in
set_option maxRecDepth 100000 in
theorem impl_lowest.calls (k : Nat) (a0 : Int) (a1 : Int) (r1 : Int) (r2 : Int) (r3 : Bool) (w : World) (h : impl_lowest.f k a0 a1 = some (r1, r2, r3)) :
  Calls Try.prog 154 #[.int .i64 a0, .int .i64 a1] w fun e w' => e = .returned (.tuple #[.agg #[.int .i64 r1, .int .i64 r2], .bool r3]) ∧ Below w.heap.size w w' := by
 have hu95 := Try.underlying95
 have HB := Aside0.mk (Below.refl w.heap.size w)
 have H : (if a1 < 0 then (impl_lowest.j0 k (wrap64 (-a0)) (wrap64 (-a1))) else (impl_lowest.j0 k a0 a1)) = some (r1, r2, r3) := h
 clear h
 have HC3 := Aside0.mk H
 clear H
 go_enter Try.func154, Try.ntmps154
 go_upto_if 9 with (first | ((with_reducible refine gate_dst (N := 4) rfl ?_); refine box_event ?hg (N := 4) ?hd (cs := #[.int .i64 0, .int .i64 0]) (t := 95) ?hr ?_; (case hd => rfl); (case hg => rfl); (case hr => first | (go_simp; done) | (go_simp; rfl)); intro gb620 hg w4 hbox hb; have n0_ := Aside0.mk (below_step (by repeat (first | (with_reducible first | exact HB.out | apply below_alloc | apply pw_below_drewN | apply below_drew1) | exact HB.out)) hb); have n1_ := Aside0.mk (hbox); have n2_ := Aside0.mk ((by rw [hg]; exact (below_size (by repeat (first | (with_reducible first | exact HB.out | apply below_alloc | apply pw_below_drewN | apply below_drew1) | exact HB.out))) : w.heap.size ≤ gb620)); have n3_ := Aside0.mk ((by rw [hg]; exact (below_size (by repeat (first | (with_reducible first | exact HB.out | apply below_alloc | apply pw_below_drewN | apply below_drew1) | exact HB.out))) : w.heap.size ≤ gb620)); clear HB; have HB := n0_; have BK620 := n1_; have GW620 := n2_; have GE620 := n3_; clear n0_ n1_ n2_ n3_; clear hb hbox hg))
 (try simp only [Act.put, List.setIfInBounds_toArray, List.set_cons_zero, List.set_cons_succ])
 go_cut [0, 1] (fun v0 v1 wc => ∃ (kq : Nat) (x0_2 : Int) (x1_2 : Int), v0 = .int .i64 x0_2 ∧ v1 = .int .i64 x1_2 ∧ Aside0 (impl_lowest.j0 kq x0_2 x1_2 = some (r1, r2, r3)) ∧ Aside0 (kq ≤ k) ∧ Aside0 (wc.heap[gb620]? = some (.cells #[.int .i64 0, .int .i64 0] 95 (0, 0))) ∧ Aside0 (Below w.heap.size w wc))
 case first =>
  have H := HC3.out
  clear HC3
  by_cases c5 : a1 < 0
  ·
   rw [if_pos c5] at H
   have c5b0 : decide (a1 < 0) = true := decide_eq_true c5
   clear c5
   (first | rw [c5b0] | (simp only [i64_w, i32_w]; rw [c5b0]) | skip)
   have H' := Aside0.mk H
   clear H
   go_wp2
   go_meet
   case rel => exact ⟨_, (wrap64 (-a0)), (wrap64 (-a1)), (by first | rfl | (simp; done) | (simp [*]; done)), (by first | rfl | (simp; done) | (simp [*]; done)), H', ⟨by first | omega | exact Nat.le_refl _⟩, ⟨by (with_reducible repeat (first | refine blk_drewN ?_ _ | refine blk_drew ?_ | refine blk_alloc ?_ _)); exact BK620.out⟩, ⟨by repeat (first | (with_reducible first | exact HB.out | apply below_alloc | apply pw_below_drewN | apply below_drew1 | refine below_set ?_ GE620.out) | exact HB.out)⟩⟩
  ·
   rw [if_neg c5] at H
   have c5b0 : decide (a1 < 0) = false := decide_eq_false c5
   clear c5
   (first | rw [c5b0] | (simp only [i64_w, i32_w]; rw [c5b0]) | skip)
   have H' := Aside0.mk H
   clear H
   go_wp2
   go_meet
   case rel => exact ⟨_, (a0), (a1), (by first | rfl | (simp; done) | (simp [*]; done)), (by first | rfl | (simp; done) | (simp [*]; done)), H', ⟨by first | omega | exact Nat.le_refl _⟩, ⟨by (with_reducible repeat (first | refine blk_drewN ?_ _ | refine blk_drew ?_ | refine blk_alloc ?_ _)); exact BK620.out⟩, ⟨by repeat (first | (with_reducible first | exact HB.out | apply below_alloc | apply pw_below_drewN | apply below_drew1 | refine below_set ?_ GE620.out) | exact HB.out)⟩⟩
 case rest =>
  clear HC3
  try clear c1
  try clear p2
  try clear c5
  try clear c5b0
  obtain ⟨kq, x0_2, x1_2, rfl, rfl, HA, HJ2, BK620, HB⟩ := hcut
  cases kq with
  | zero => exact absurd HA.out (by simp [impl_lowest.j0])
  | succ kj2 =>
   have H := HA.out
   clear HA
   simp only [impl_lowest.j0] at H
   by_cases c6 : x1_2 = 0
   ·
    rw [if_pos c6] at H
    have c6b0 : (x1_2 == 0) = true := beq_iff_eq.mpr c6
    have c6b1 : (x1_2 != 0) = false := bne_eq_false_iff_eq.mpr c6
    clear c6
    simp only [Option.some.injEq, Prod.mk.injEq] at H
    obtain ⟨rfl, rfl, rfl⟩ := H
    have hcz7_0 : wc.cell? ⟨gb620, 0, none⟩ = some (.int .i64 0) := (blk_cell BK620.out 0).trans rfl
    have hcz7_1 : wc.cell? ⟨gb620, 1, none⟩ = some (.int .i64 0) := (blk_cell BK620.out 1).trans rfl
    have hfz7_0 := blk_frozen BK620.out 0
    have hfz7_1 := blk_frozen BK620.out 1
    go_wp2
    refine bodyPost_ret (results_ct rfl _ _ gb620 95 #[.int .i64 0, .int .i64 0] (0, 0) _ rfl (by (with_reducible repeat (first | refine blk_drewN ?_ _ | refine blk_drew ?_ | refine blk_alloc ?_ _)); refine blk_put (cs := #[.int .i64 0, .int .i64 0]) ?_ 1 _ rfl; (with_reducible repeat (first | refine blk_drewN ?_ _ | refine blk_drew ?_ | refine blk_alloc ?_ _)); refine blk_put (cs := #[.int .i64 0, .int .i64 0]) ?_ 0 _ rfl; (with_reducible repeat (first | refine blk_drewN ?_ _ | refine blk_drew ?_ | refine blk_alloc ?_ _)); exact BK620.out) Try.underlying95 rfl (by kernel_rfl)) rfl ?_
    exact ⟨by first | rfl | (simp [errW_none, errW_some] <;> rfl) | (simp [*, errW_none, errW_some] <;> rfl), by repeat (first | (with_reducible first | exact HB.out | apply below_alloc | apply pw_below_drewN | apply below_drew1 | refine below_set ?_ GE620.out) | exact HB.out)⟩
   ·
    rw [if_neg c6] at H
    have c6b0 : (x1_2 == 0) = false := beq_eq_false_iff_ne.mpr c6
    have c6b1 : (x1_2 != 0) = true := bne_iff_ne.mpr c6
    obtain ⟨ji8, hji8⟩ : ∃ j_ : Int, (mx x0_2 (wrap64 (-x0_2))) = j_ := ⟨_, rfl⟩
    replace H : ((impl_divisor.f kj2 (ji8) x1_2).bind fun t621 => (if t621 = 0 then (none) else ((impl_IsRatio.f kj2 (wrap64 (Int.tdiv x0_2 t621)) (wrap64 (Int.tdiv x1_2 t621))).bind fun t623 => (if t623 = true then (some (wrap64 (Int.tdiv x0_2 t621), wrap64 (Int.tdiv x1_2 t621), true)) else (some (0, 0, false)))))) = some (r1, r2, r3) := by first | (rw [hji8] at H; exact H) | (simp only [hji8] at H ⊢; exact H)
    have hji8_ : (if x0_2 < (wrap64 (-x0_2)) then (wrap64 (-x0_2)) else x0_2) = ji8 := hji8
    replace H := Option.bind_eq_some_iff.mp H
    obtain ⟨t621, A90, H⟩ := H
    try dsimp only at H
    have A9 := Aside0.mk A90
    clear A90
    by_cases c10 : t621 = 0
    ·
     rw [if_pos c10] at H
     exact absurd H (by simp)
    ·
     rw [if_neg c10] at H
     have c10b0 : (t621 == 0) = false := beq_eq_false_iff_ne.mpr c10
     have c10b1 : (t621 != 0) = true := bne_iff_ne.mpr c10
     replace H := Option.bind_eq_some_iff.mp H
     obtain ⟨t623, A110, H⟩ := H
     try dsimp only at H
     have A11 := Aside0.mk A110
     clear A110
     by_cases c12 : t623 = true
     ·
      subst c12
      rw [if_pos rfl] at H
      simp only [Option.some.injEq, Prod.mk.injEq] at H
      obtain ⟨rfl, rfl, rfl⟩ := H
      try go_wp2_with (first | ((with_reducible refine gate_callee (f := 123) rfl ?_); refine goesL_ (some 22) rfl rfl Try.func123 (by kernel_rfl) rfl #[.int .i64 ji8, .int .i64 x1_2] rfl (by (try simp only [List.map_toArray, List.map_cons, List.map_nil]); first | done | (simp only [hji8]; rfl) | rfl | (simp only [List.length_drop, List.length_take]; rfl)) ?_; (with_reducible refine (impl_divisor.calls kj2 ji8 x1_2 t621 _ A9.out).mono ?_); rintro e w' ⟨rfl, ⟨nd, rfl⟩⟩; refine ⟨_, rfl, ?_⟩; (try (rw [drewN_self wc]; generalize hq_ : World.drewN wc _ = wc; have n0_ : Aside0 (wc.heap[gb620]? = some (.cells #[.int .i64 0, .int .i64 0] 95 (0, 0))) := ⟨by rw [← hq_]; exact (by (with_reducible repeat (first | refine blk_drewN ?_ _ | refine blk_drew ?_ | refine blk_alloc ?_ _)); exact BK620.out)⟩; have n1_ : Aside0 (Below w.heap.size w wc) := ⟨by rw [← hq_]; exact (by repeat (first | (with_reducible first | exact HB.out | apply below_alloc | apply pw_below_drewN | apply below_drew1 | refine below_set ?_ GE620.out) | exact HB.out))⟩; clear BK620 HB hq_; have BK620 := n0_; have HB := n1_; clear n0_ n1_))))
      have n0_ := Aside0.mk (blk_drew BK620.out)
      have n1_ := Aside0.mk (below_drew1 HB.out)
      clear BK620
      clear HB
      have BK620 := n0_
      have HB := n1_
      clear n0_ n1_
      refine start_ (n := 9) (S := fun w' => True) (ds := []) #[false, false, false, false, false, false, false, false, false] (by kernel_rfl) rfl rfl trivial (fun hHeld => ?_); refine with_tabW impl_lowest.tab6 impl_lowest.bits6 (fun HT_ HW_ => ?_)
      generalize wc.drew = w13 at BK620 HB hHeld ⊢
      refine pure_ (i := 0) (N := some 23) (v := ?_) (a' := ?_) #[true, false, false, false, false, false, false, false, false] rfl rfl (any_of HT_.out (by kernel_rfl)) (fun _ _ _ h => h) (Or.inl ⟨by rfl, ?_⟩) ?_ ?_
      rotate_left
      ·
       intro w'
       go_simp
       with_reducible rfl
      rotate_left
      ·
       simp only [Act.put, List.setIfInBounds_toArray, List.set_cons_zero, List.set_cons_succ, i64_w, i32_w]
       rfl
      refine pure_ (i := 1) (N := some 24) (v := ?_) (a' := ?_) #[true, true, false, false, false, false, false, false, false] rfl rfl (any_of HT_.out (by kernel_rfl)) (fun _ _ _ h => h) (Or.inl ⟨by rfl, ?_⟩) ?_ ?_
      rotate_left
      ·
       intro w'
       go_simp
       with_reducible rfl
      rotate_left
      ·
       simp only [Act.put, List.setIfInBounds_toArray, List.set_cons_zero, List.set_cons_succ, i64_w, i32_w]
       rfl
      refine pure_ (i := 2) (N := some 25) (v := ?_) (a' := ?_) #[true, true, true, false, false, false, false, false, false] rfl rfl (any_of HT_.out (by kernel_rfl)) (fun _ _ _ h => h) (Or.inl ⟨by rfl, ?_⟩) ?_ ?_
      rotate_left
      ·
       intro w'
       go_simp
       with_reducible rfl
      rotate_left
      ·
       simp only [Act.put, List.setIfInBounds_toArray, List.set_cons_zero, List.set_cons_succ, i64_w, i32_w]
       rfl
      refine pure_ (i := 3) (N := some 26) (v := ?_) (a' := ?_) #[true, true, true, true, false, false, false, false, false] rfl rfl (any_of HT_.out (by kernel_rfl)) (fun _ _ _ h => h) (Or.inl ⟨by rfl, ?_⟩) ?_ ?_
      rotate_left
      ·
       intro w'
       go_simp
       with_reducible rfl
      rotate_left
      ·
       simp only [Act.put, List.setIfInBounds_toArray, List.set_cons_zero, List.set_cons_succ, i64_w, i32_w]
       rfl
      refine pure_ (i := 4) (N := some 27) (v := ?_) (a' := ?_) #[true, true, true, true, true, false, false, false, false] rfl rfl (any_of HT_.out (by kernel_rfl)) (fun _ _ _ h => h) (Or.inl ⟨by rfl, ?_⟩) ?_ ?_
      rotate_left
      ·
       intro w'
       go_simp
       with_reducible rfl
      rotate_left
      ·
       simp only [Act.put, List.setIfInBounds_toArray, List.set_cons_zero, List.set_cons_succ, i64_w, i32_w]
       rfl
      refine pure_ (i := 5) (N := some 28) (v := ?_) (a' := ?_) #[true, true, true, true, true, true, false, false, false] rfl rfl (any_of HT_.out (by kernel_rfl)) (fun _ _ _ h => h) (Or.inl ⟨by rfl, ?_⟩) ?_ ?_
      rotate_left
      ·
       intro w'
       go_simp
       with_reducible rfl
      rotate_left
      ·
       simp only [Act.put, List.setIfInBounds_toArray, List.set_cons_zero, List.set_cons_succ, i64_w, i32_w]
       rfl
      refine pure_ (i := 6) (N := some 29) (v := ?_) (a' := ?_) #[true, true, true, true, true, true, true, false, false] rfl rfl (any_of HT_.out (by kernel_rfl)) (fun _ _ _ h => h) (Or.inl ⟨by rfl, ?_⟩) ?_ ?_
      rotate_left
      ·
       intro w'
       go_simp
       with_reducible rfl
      rotate_left
      ·
       simp only [Act.put, List.setIfInBounds_toArray, List.set_cons_zero, List.set_cons_succ, i64_w, i32_w]
       rfl
      refine one_ (i := 7) (N := some 7) #[true, true, true, true, true, true, true, true, false] rfl rfl (one_of HT_.out (by kernel_rfl)) (by decide) (fun K hK => ?_)
      refine box_step ?hg (N := 7) ?hd (cs := #[.int .i64 0, .int .i64 0]) (t := 95) ?hr ?_; (case hd => rfl); (case hg => rfl); (case hr => first | (go_simp; done) | (go_simp; rfl))
      intro gb622 hg w14 hbox hb
      have n0_ := Aside0.mk (blk_below (g := gb620) (o := .cells #[.int .i64 0, .int .i64 0] 95 (0, 0)) (by (with_reducible repeat (first | refine blk_drewN ?_ _ | refine blk_drew ?_ | refine blk_alloc ?_ _)); exact BK620.out) hb)
      have n1_ := Aside0.mk (below_step (by repeat (first | (with_reducible first | exact HB.out | apply below_alloc | apply pw_below_drewN | apply below_drew1 | refine below_set ?_ GE620.out) | exact HB.out)) hb)
      have n2_ := Aside0.mk (hbox)
      have n3_ := Aside0.mk ((by rw [hg]; exact (below_size (by repeat (first | (with_reducible first | exact HB.out | apply below_alloc | apply pw_below_drewN | apply below_drew1 | refine below_set ?_ GE620.out) | exact HB.out))) : w.heap.size ≤ gb622))
      have n4_ := Aside0.mk ((by rw [hg]; exact (below_size (by repeat (first | (with_reducible first | exact HB.out | apply below_alloc | apply pw_below_drewN | apply below_drew1 | refine below_set ?_ GE620.out) | exact HB.out))) : w.heap.size ≤ gb622))
      have n5_ := Aside0.mk ((by rw [hg]; exact Nat.ne_of_lt (blk_lt (g := gb620) (o := .cells #[.int .i64 0, .int .i64 0] 95 (0, 0)) (by (with_reducible repeat (first | refine blk_drewN ?_ _ | refine blk_drew ?_ | refine blk_alloc ?_ _)); exact BK620.out)) : gb620 ≠ gb622))
      have n6_ := Aside0.mk ((by rw [hg]; exact Nat.ne_of_gt (blk_lt (g := gb620) (o := .cells #[.int .i64 0, .int .i64 0] 95 (0, 0)) (by (with_reducible repeat (first | refine blk_drewN ?_ _ | refine blk_drew ?_ | refine blk_alloc ?_ _)); exact BK620.out)) : gb622 ≠ gb620))
      clear BK620
      clear HB
      have BK620 := n0_
      have HB := n1_
      have BK622 := n2_
      have GW622 := n3_
      have GE622 := n4_
      have NB620_622 := n5_
      have NB622_620 := n6_
      clear n0_ n1_ n2_ n3_ n4_ n5_ n6_
      clear hb hbox hg
      refine hK.out _ _ trivial (fun hHeld => ?_)
      clear hK K
      refine norm_ (a' := ?_) ?_ ?_
      rotate_left
      ·
       show Act.put _ (some 7) _ = _
       simp only [Act.put, List.setIfInBounds_toArray, List.set_cons_zero, List.set_cons_succ, i64_w, i32_w]
       rfl
      refine one_ (i := 8) (N := none) #[true, true, true, true, true, true, true, true, true] rfl rfl (one_of HT_.out (by kernel_rfl)) (by decide) (fun K hK => ?_)
      have hs15 : w14.cell? ⟨gb622, 0, none⟩ = some (.int .i64 0) := (blk_cell BK622.out 0).trans rfl
      have hfs15 := blk_frozen BK622.out 0
      have hns15_0 := NB620_622.out
      have hms15_0 := NB622_620.out
      have hs16 : w14.cell? ⟨gb622, 1, none⟩ = some (.int .i64 0) := (blk_cell BK622.out 1).trans rfl
      have hfs16 := blk_frozen BK622.out 1
      have hns16_0 := NB620_622.out
      have hms16_0 := NB622_620.out
      refine skip_ (w1 := ?_) (by rfl) rfl ?_ ?_
      rotate_left
      ·
       go_simp
       rfl
      refine hK.out _ _ trivial (fun hHeld => ?_)
      clear hK K
      refine done_ (done_of HT_.out (by kernel_rfl)) ?_
      have hnb17 := NB622_620.out
      have hnc17 := NB620_622.out
      have hcz18_0 : w14.cell? ⟨gb622, 0, none⟩ = some (.int .i64 0) := (blk_cell BK622.out 0).trans rfl
      have hcz18_1 : w14.cell? ⟨gb622, 1, none⟩ = some (.int .i64 0) := (blk_cell BK622.out 1).trans rfl
      have hfz18_0 := blk_frozen BK622.out 0
      have hfz18_1 := blk_frozen BK622.out 1
      try go_wp2_with (first | ((with_reducible refine gate_callee (f := 62) rfl ?_); refine goesL_ (some 31) rfl rfl Try.func62 (by kernel_rfl) rfl #[.agg #[.int .i64 (wrap64 (Int.tdiv x0_2 t621)), .int .i64 (wrap64 (Int.tdiv x1_2 t621))]] rfl (by (try simp only [List.map_toArray, List.map_cons, List.map_nil]); first | done | rfl | (simp only [List.length_drop, List.length_take]; rfl)) ?_; (with_reducible refine (impl_IsRatio.calls kj2 (wrap64 (Int.tdiv x0_2 t621)) (wrap64 (Int.tdiv x1_2 t621)) true _ A11.out).mono ?_); rintro e w19 ⟨rfl, hb⟩; refine ⟨_, rfl, ?_⟩; have n0_ := Aside0.mk (blk_below (g := gb620) (o := .cells #[.int .i64 0, .int .i64 0] 95 (0, 0)) (by (with_reducible repeat (first | refine blk_drewN ?_ _ | refine blk_drew ?_ | refine blk_alloc ?_ _)); refine blk_far ?_ NB620_622.out _; (with_reducible repeat (first | refine blk_drewN ?_ _ | refine blk_drew ?_ | refine blk_alloc ?_ _)); refine blk_far ?_ NB620_622.out _; (with_reducible repeat (first | refine blk_drewN ?_ _ | refine blk_drew ?_ | refine blk_alloc ?_ _)); exact BK620.out) hb); have n1_ := Aside0.mk (blk_below (g := gb622) (o := .cells #[.int .i64 (wrap64 (Int.tdiv x0_2 t621)), .int .i64 (wrap64 (Int.tdiv x1_2 t621))] 95 (0, 0)) (by (with_reducible repeat (first | refine blk_drewN ?_ _ | refine blk_drew ?_ | refine blk_alloc ?_ _)); refine blk_put (cs := #[.int .i64 (wrap64 (Int.tdiv x0_2 t621)), .int .i64 0]) ?_ 1 _ rfl; (with_reducible repeat (first | refine blk_drewN ?_ _ | refine blk_drew ?_ | refine blk_alloc ?_ _)); refine blk_put (cs := #[.int .i64 0, .int .i64 0]) ?_ 0 _ rfl; (with_reducible repeat (first | refine blk_drewN ?_ _ | refine blk_drew ?_ | refine blk_alloc ?_ _)); exact BK622.out) hb); have n2_ := Aside0.mk (below_step (by repeat (first | (with_reducible first | exact HB.out | apply below_alloc | apply pw_below_drewN | apply below_drew1 | refine below_set ?_ GE620.out | refine below_set ?_ GE622.out) | exact HB.out)) hb); clear BK620; clear BK622; clear HB; have BK620 := n0_; have BK622 := n1_; have HB := n2_; clear n0_ n1_ n2_; (try clear hb); (try clear hb2); (try clear hk); (try clear hi); have hcz20_0 : w19.cell? ⟨gb622, 0, none⟩ = some (.int .i64 (wrap64 (Int.tdiv x0_2 t621))) := (blk_cell BK622.out 0).trans rfl; have hcz20_1 : w19.cell? ⟨gb622, 1, none⟩ = some (.int .i64 (wrap64 (Int.tdiv x1_2 t621))) := (blk_cell BK622.out 1).trans rfl; have hfz20_0 := blk_frozen BK622.out 0; have hfz20_1 := blk_frozen BK622.out 1; have hcz21_0 : w19.cell? ⟨gb620, 0, none⟩ = some (.int .i64 0) := (blk_cell BK620.out 0).trans rfl; have hcz21_1 : w19.cell? ⟨gb620, 1, none⟩ = some (.int .i64 0) := (blk_cell BK620.out 1).trans rfl; have hfz21_0 := blk_frozen BK620.out 0; have hfz21_1 := blk_frozen BK620.out 1))
      refine bodyPost_ret (results_ct rfl _ _ gb620 95 #[.int .i64 (wrap64 (Int.tdiv x0_2 t621)), .int .i64 (wrap64 (Int.tdiv x1_2 t621))] (0, 0) _ rfl (by (with_reducible repeat (first | refine blk_drewN ?_ _ | refine blk_drew ?_ | refine blk_alloc ?_ _)); refine blk_put (cs := #[.int .i64 (wrap64 (Int.tdiv x0_2 t621)), .int .i64 0]) ?_ 1 _ rfl; (with_reducible repeat (first | refine blk_drewN ?_ _ | refine blk_drew ?_ | refine blk_alloc ?_ _)); refine blk_put (cs := #[.int .i64 0, .int .i64 0]) ?_ 0 _ rfl; (with_reducible repeat (first | refine blk_drewN ?_ _ | refine blk_drew ?_ | refine blk_alloc ?_ _)); exact BK620.out) Try.underlying95 rfl (by kernel_rfl)) rfl ?_
      exact ⟨by first | rfl | (simp [errW_none, errW_some] <;> rfl) | (simp only [← hji8]; first | rfl | (simp [errW_none, errW_some] <;> rfl)) | (simp [*, errW_none, errW_some] <;> rfl), by repeat (first | (with_reducible first | exact HB.out | apply below_alloc | apply pw_below_drewN | apply below_drew1 | refine below_set ?_ GE620.out | refine below_set ?_ GE622.out) | exact HB.out)⟩
     ·
      replace c12 := Bool.eq_false_iff.mpr c12
      subst c12
      rw [if_neg (show ¬ (false = true) by decide)] at H
      simp only [Option.some.injEq, Prod.mk.injEq] at H
      obtain ⟨rfl, rfl, rfl⟩ := H
      try go_wp2_with (first | ((with_reducible refine gate_callee (f := 123) rfl ?_); refine goesL_ (some 22) rfl rfl Try.func123 (by kernel_rfl) rfl #[.int .i64 ji8, .int .i64 x1_2] rfl (by (try simp only [List.map_toArray, List.map_cons, List.map_nil]); first | done | (simp only [hji8]; rfl) | rfl | (simp only [List.length_drop, List.length_take]; rfl)) ?_; (with_reducible refine (impl_divisor.calls kj2 ji8 x1_2 t621 _ A9.out).mono ?_); rintro e w' ⟨rfl, ⟨nd, rfl⟩⟩; refine ⟨_, rfl, ?_⟩; (try (rw [drewN_self wc]; generalize hq_ : World.drewN wc _ = wc; have n0_ : Aside0 (wc.heap[gb620]? = some (.cells #[.int .i64 0, .int .i64 0] 95 (0, 0))) := ⟨by rw [← hq_]; exact (by (with_reducible repeat (first | refine blk_drewN ?_ _ | refine blk_drew ?_ | refine blk_alloc ?_ _)); exact BK620.out)⟩; have n1_ : Aside0 (Below w.heap.size w wc) := ⟨by rw [← hq_]; exact (by repeat (first | (with_reducible first | exact HB.out | apply below_alloc | apply pw_below_drewN | apply below_drew1 | refine below_set ?_ GE620.out) | exact HB.out))⟩; clear BK620 HB hq_; have BK620 := n0_; have HB := n1_; clear n0_ n1_))))
      have n0_ := Aside0.mk (blk_drew BK620.out)
      have n1_ := Aside0.mk (below_drew1 HB.out)
      clear BK620
      clear HB
      have BK620 := n0_
      have HB := n1_
      clear n0_ n1_
      refine start_ (n := 9) (S := fun w' => True) (ds := []) #[false, false, false, false, false, false, false, false, false] (by kernel_rfl) rfl rfl trivial (fun hHeld => ?_); refine with_tabW impl_lowest.tab6 impl_lowest.bits6 (fun HT_ HW_ => ?_)
      generalize wc.drew = w22 at BK620 HB hHeld ⊢
      refine pure_ (i := 0) (N := some 23) (v := ?_) (a' := ?_) #[true, false, false, false, false, false, false, false, false] rfl rfl (any_of HT_.out (by kernel_rfl)) (fun _ _ _ h => h) (Or.inl ⟨by rfl, ?_⟩) ?_ ?_
      rotate_left
      ·
       intro w'
       go_simp
       with_reducible rfl
      rotate_left
      ·
       simp only [Act.put, List.setIfInBounds_toArray, List.set_cons_zero, List.set_cons_succ, i64_w, i32_w]
       rfl
      refine pure_ (i := 1) (N := some 24) (v := ?_) (a' := ?_) #[true, true, false, false, false, false, false, false, false] rfl rfl (any_of HT_.out (by kernel_rfl)) (fun _ _ _ h => h) (Or.inl ⟨by rfl, ?_⟩) ?_ ?_
      rotate_left
      ·
       intro w'
       go_simp
       with_reducible rfl
      rotate_left
      ·
       simp only [Act.put, List.setIfInBounds_toArray, List.set_cons_zero, List.set_cons_succ, i64_w, i32_w]
       rfl
      refine pure_ (i := 2) (N := some 25) (v := ?_) (a' := ?_) #[true, true, true, false, false, false, false, false, false] rfl rfl (any_of HT_.out (by kernel_rfl)) (fun _ _ _ h => h) (Or.inl ⟨by rfl, ?_⟩) ?_ ?_
      rotate_left
      ·
       intro w'
       go_simp
       with_reducible rfl
      rotate_left
      ·
       simp only [Act.put, List.setIfInBounds_toArray, List.set_cons_zero, List.set_cons_succ, i64_w, i32_w]
       rfl
      refine pure_ (i := 3) (N := some 26) (v := ?_) (a' := ?_) #[true, true, true, true, false, false, false, false, false] rfl rfl (any_of HT_.out (by kernel_rfl)) (fun _ _ _ h => h) (Or.inl ⟨by rfl, ?_⟩) ?_ ?_
      rotate_left
      ·
       intro w'
       go_simp
       with_reducible rfl
      rotate_left
      ·
       simp only [Act.put, List.setIfInBounds_toArray, List.set_cons_zero, List.set_cons_succ, i64_w, i32_w]
       rfl
      refine pure_ (i := 4) (N := some 27) (v := ?_) (a' := ?_) #[true, true, true, true, true, false, false, false, false] rfl rfl (any_of HT_.out (by kernel_rfl)) (fun _ _ _ h => h) (Or.inl ⟨by rfl, ?_⟩) ?_ ?_
      rotate_left
      ·
       intro w'
       go_simp
       with_reducible rfl
      rotate_left
      ·
       simp only [Act.put, List.setIfInBounds_toArray, List.set_cons_zero, List.set_cons_succ, i64_w, i32_w]
       rfl
      refine pure_ (i := 5) (N := some 28) (v := ?_) (a' := ?_) #[true, true, true, true, true, true, false, false, false] rfl rfl (any_of HT_.out (by kernel_rfl)) (fun _ _ _ h => h) (Or.inl ⟨by rfl, ?_⟩) ?_ ?_
      rotate_left
      ·
       intro w'
       go_simp
       with_reducible rfl
      rotate_left
      ·
       simp only [Act.put, List.setIfInBounds_toArray, List.set_cons_zero, List.set_cons_succ, i64_w, i32_w]
       rfl
      refine pure_ (i := 6) (N := some 29) (v := ?_) (a' := ?_) #[true, true, true, true, true, true, true, false, false] rfl rfl (any_of HT_.out (by kernel_rfl)) (fun _ _ _ h => h) (Or.inl ⟨by rfl, ?_⟩) ?_ ?_
      rotate_left
      ·
       intro w'
       go_simp
       with_reducible rfl
      rotate_left
      ·
       simp only [Act.put, List.setIfInBounds_toArray, List.set_cons_zero, List.set_cons_succ, i64_w, i32_w]
       rfl
      refine one_ (i := 7) (N := some 7) #[true, true, true, true, true, true, true, true, false] rfl rfl (one_of HT_.out (by kernel_rfl)) (by decide) (fun K hK => ?_)
      refine box_step ?hg (N := 7) ?hd (cs := #[.int .i64 0, .int .i64 0]) (t := 95) ?hr ?_; (case hd => rfl); (case hg => rfl); (case hr => first | (go_simp; done) | (go_simp; rfl))
      intro gb622 hg w23 hbox hb
      have n0_ := Aside0.mk (blk_below (g := gb620) (o := .cells #[.int .i64 0, .int .i64 0] 95 (0, 0)) (by (with_reducible repeat (first | refine blk_drewN ?_ _ | refine blk_drew ?_ | refine blk_alloc ?_ _)); exact BK620.out) hb)
      have n1_ := Aside0.mk (below_step (by repeat (first | (with_reducible first | exact HB.out | apply below_alloc | apply pw_below_drewN | apply below_drew1 | refine below_set ?_ GE620.out) | exact HB.out)) hb)
      have n2_ := Aside0.mk (hbox)
      have n3_ := Aside0.mk ((by rw [hg]; exact (below_size (by repeat (first | (with_reducible first | exact HB.out | apply below_alloc | apply pw_below_drewN | apply below_drew1 | refine below_set ?_ GE620.out) | exact HB.out))) : w.heap.size ≤ gb622))
      have n4_ := Aside0.mk ((by rw [hg]; exact (below_size (by repeat (first | (with_reducible first | exact HB.out | apply below_alloc | apply pw_below_drewN | apply below_drew1 | refine below_set ?_ GE620.out) | exact HB.out))) : w.heap.size ≤ gb622))
      have n5_ := Aside0.mk ((by rw [hg]; exact Nat.ne_of_lt (blk_lt (g := gb620) (o := .cells #[.int .i64 0, .int .i64 0] 95 (0, 0)) (by (with_reducible repeat (first | refine blk_drewN ?_ _ | refine blk_drew ?_ | refine blk_alloc ?_ _)); exact BK620.out)) : gb620 ≠ gb622))
      have n6_ := Aside0.mk ((by rw [hg]; exact Nat.ne_of_gt (blk_lt (g := gb620) (o := .cells #[.int .i64 0, .int .i64 0] 95 (0, 0)) (by (with_reducible repeat (first | refine blk_drewN ?_ _ | refine blk_drew ?_ | refine blk_alloc ?_ _)); exact BK620.out)) : gb622 ≠ gb620))
      clear BK620
      clear HB
      have BK620 := n0_
      have HB := n1_
      have BK622 := n2_
      have GW622 := n3_
      have GE622 := n4_
      have NB620_622 := n5_
      have NB622_620 := n6_
      clear n0_ n1_ n2_ n3_ n4_ n5_ n6_
      clear hb hbox hg
      refine hK.out _ _ trivial (fun hHeld => ?_)
      clear hK K
      refine norm_ (a' := ?_) ?_ ?_
      rotate_left
      ·
       show Act.put _ (some 7) _ = _
       simp only [Act.put, List.setIfInBounds_toArray, List.set_cons_zero, List.set_cons_succ, i64_w, i32_w]
       rfl
      refine one_ (i := 8) (N := none) #[true, true, true, true, true, true, true, true, true] rfl rfl (one_of HT_.out (by kernel_rfl)) (by decide) (fun K hK => ?_)
      have hs24 : w23.cell? ⟨gb622, 0, none⟩ = some (.int .i64 0) := (blk_cell BK622.out 0).trans rfl
      have hfs24 := blk_frozen BK622.out 0
      have hns24_0 := NB620_622.out
      have hms24_0 := NB622_620.out
      have hs25 : w23.cell? ⟨gb622, 1, none⟩ = some (.int .i64 0) := (blk_cell BK622.out 1).trans rfl
      have hfs25 := blk_frozen BK622.out 1
      have hns25_0 := NB620_622.out
      have hms25_0 := NB622_620.out
      refine skip_ (w1 := ?_) (by rfl) rfl ?_ ?_
      rotate_left
      ·
       go_simp
       rfl
      refine hK.out _ _ trivial (fun hHeld => ?_)
      clear hK K
      refine done_ (done_of HT_.out (by kernel_rfl)) ?_
      have hnb26 := NB622_620.out
      have hnc26 := NB620_622.out
      have hcz27_0 : w23.cell? ⟨gb622, 0, none⟩ = some (.int .i64 0) := (blk_cell BK622.out 0).trans rfl
      have hcz27_1 : w23.cell? ⟨gb622, 1, none⟩ = some (.int .i64 0) := (blk_cell BK622.out 1).trans rfl
      have hfz27_0 := blk_frozen BK622.out 0
      have hfz27_1 := blk_frozen BK622.out 1
      try go_wp2_with (first | ((with_reducible refine gate_callee (f := 62) rfl ?_); refine goesL_ (some 31) rfl rfl Try.func62 (by kernel_rfl) rfl #[.agg #[.int .i64 (wrap64 (Int.tdiv x0_2 t621)), .int .i64 (wrap64 (Int.tdiv x1_2 t621))]] rfl (by (try simp only [List.map_toArray, List.map_cons, List.map_nil]); first | done | rfl | (simp only [List.length_drop, List.length_take]; rfl)) ?_; (with_reducible refine (impl_IsRatio.calls kj2 (wrap64 (Int.tdiv x0_2 t621)) (wrap64 (Int.tdiv x1_2 t621)) false _ A11.out).mono ?_); rintro e w28 ⟨rfl, hb⟩; refine ⟨_, rfl, ?_⟩; have n0_ := Aside0.mk (blk_below (g := gb620) (o := .cells #[.int .i64 0, .int .i64 0] 95 (0, 0)) (by (with_reducible repeat (first | refine blk_drewN ?_ _ | refine blk_drew ?_ | refine blk_alloc ?_ _)); refine blk_far ?_ NB620_622.out _; (with_reducible repeat (first | refine blk_drewN ?_ _ | refine blk_drew ?_ | refine blk_alloc ?_ _)); refine blk_far ?_ NB620_622.out _; (with_reducible repeat (first | refine blk_drewN ?_ _ | refine blk_drew ?_ | refine blk_alloc ?_ _)); exact BK620.out) hb); have n1_ := Aside0.mk (blk_below (g := gb622) (o := .cells #[.int .i64 (wrap64 (Int.tdiv x0_2 t621)), .int .i64 (wrap64 (Int.tdiv x1_2 t621))] 95 (0, 0)) (by (with_reducible repeat (first | refine blk_drewN ?_ _ | refine blk_drew ?_ | refine blk_alloc ?_ _)); refine blk_put (cs := #[.int .i64 (wrap64 (Int.tdiv x0_2 t621)), .int .i64 0]) ?_ 1 _ rfl; (with_reducible repeat (first | refine blk_drewN ?_ _ | refine blk_drew ?_ | refine blk_alloc ?_ _)); refine blk_put (cs := #[.int .i64 0, .int .i64 0]) ?_ 0 _ rfl; (with_reducible repeat (first | refine blk_drewN ?_ _ | refine blk_drew ?_ | refine blk_alloc ?_ _)); exact BK622.out) hb); have n2_ := Aside0.mk (below_step (by repeat (first | (with_reducible first | exact HB.out | apply below_alloc | apply pw_below_drewN | apply below_drew1 | refine below_set ?_ GE620.out | refine below_set ?_ GE622.out) | exact HB.out)) hb); clear BK620; clear BK622; clear HB; have BK620 := n0_; have BK622 := n1_; have HB := n2_; clear n0_ n1_ n2_; (try clear hb); (try clear hb2); (try clear hk); (try clear hi); have hcz29_0 : w28.cell? ⟨gb620, 0, none⟩ = some (.int .i64 0) := (blk_cell BK620.out 0).trans rfl; have hcz29_1 : w28.cell? ⟨gb620, 1, none⟩ = some (.int .i64 0) := (blk_cell BK620.out 1).trans rfl; have hfz29_0 := blk_frozen BK620.out 0; have hfz29_1 := blk_frozen BK620.out 1))
      refine bodyPost_ret (results_ct rfl _ _ gb620 95 #[.int .i64 0, .int .i64 0] (0, 0) _ rfl (by (with_reducible repeat (first | refine blk_drewN ?_ _ | refine blk_drew ?_ | refine blk_alloc ?_ _)); refine blk_put (cs := #[.int .i64 0, .int .i64 0]) ?_ 1 _ rfl; (with_reducible repeat (first | refine blk_drewN ?_ _ | refine blk_drew ?_ | refine blk_alloc ?_ _)); refine blk_put (cs := #[.int .i64 0, .int .i64 0]) ?_ 0 _ rfl; (with_reducible repeat (first | refine blk_drewN ?_ _ | refine blk_drew ?_ | refine blk_alloc ?_ _)); exact BK620.out) Try.underlying95 rfl (by kernel_rfl)) rfl ?_
      exact ⟨by first | rfl | (simp [errW_none, errW_some] <;> rfl) | (simp only [← hji8]; first | rfl | (simp [errW_none, errW_some] <;> rfl)) | (simp [*, errW_none, errW_some] <;> rfl), by repeat (first | (with_reducible first | exact HB.out | apply below_alloc | apply pw_below_drewN | apply below_drew1 | refine below_set ?_ GE620.out | refine below_set ?_ GE622.out) | exact HB.out)⟩
end Go.Proofs.Ytbhlmeghbfmgiaa.F

namespace Go.Proofs.Ytbhlmeghbfmgiaa.F
open Go.RowKit Go.Proofs.YtbhlmeghbfmgiaaW.PrintWords Go.Proofs.YtbhlmeghbfmgiaaW.PrintLast Go.Proofs.YtbhlmeghbfmgiaaW.PrintMore
attribute [local go_sem] max2_int min2_int max_two min_two max_three min_three max_four min_four
set_option linter.unusedVariables false
set_option linter.unusedSimpArgs false
def impl_MakeRatio.f (k : Nat) (a0 : Int) (a1 : Int) : Option (Int × Int × Bool) := (impl_InRange.f a0 (-1000000000000000) 1000000000000000).bind fun t625 => (if t625 = true then ((impl_InRange.f a1 (-1000000000000000) 1000000000000000).bind fun t626 => (if t626 = true then ((impl_lowest.f k a0 a1).bind fun bt627 => (some (bt627.1, bt627.2.1, bt627.2.2))) else (some (0, 0, false)))) else (some (0, 0, false)))
set_option maxHeartbeats 8000000 in
set_option maxRecDepth 100000 in
theorem impl_MakeRatio.calls (k : Nat) (a0 : Int) (a1 : Int) (r1 : Int) (r2 : Int) (r3 : Bool) (w : World) (h : impl_MakeRatio.f k a0 a1 = some (r1, r2, r3)) :
  Calls Try.prog 119 #[.int .i64 a0, .int .i64 a1] w fun e w' => e = .returned (.tuple #[.agg #[.int .i64 r1, .int .i64 r2], .bool r3]) ∧ Below w.heap.size w w' := by
 have hu95 := Try.underlying95
 have HB := Aside0.mk (Below.refl w.heap.size w)
 have H : ((impl_InRange.f a0 (-1000000000000000) 1000000000000000).bind fun t625 => (if t625 = true then ((impl_InRange.f a1 (-1000000000000000) 1000000000000000).bind fun t626 => (if t626 = true then ((impl_lowest.f k a0 a1).bind fun bt627 => (some (bt627.1, bt627.2.1, bt627.2.2))) else (some (0, 0, false)))) else (some (0, 0, false)))) = some (r1, r2, r3) := h
 clear h
 replace H := Option.bind_eq_some_iff.mp H
 obtain ⟨t625, A30, H⟩ := H
 try dsimp only at H
 have A3 := Aside0.mk A30
 clear A30
 by_cases c4 : t625 = true
 ·
  subst c4
  rw [if_pos rfl] at H
  replace H := Option.bind_eq_some_iff.mp H
  obtain ⟨t626, A50, H⟩ := H
  try dsimp only at H
  have A5 := Aside0.mk A50
  clear A50
  by_cases c6 : t626 = true
  ·
   subst c6
   rw [if_pos rfl] at H
   replace H := Option.bind_eq_some_iff.mp H
   obtain ⟨⟨t627, t628, t629⟩, A70, H⟩ := H
   try dsimp only at H
   have A7 := Aside0.mk A70
   clear A70
   simp only [Option.some.injEq, Prod.mk.injEq] at H
   obtain ⟨rfl, rfl, rfl⟩ := H
   go_enter Try.func119, Try.ntmps119
   go_wp2_with (first | ((with_reducible refine gate_dst (N := 4) rfl ?_); refine box_event ?hg (N := 4) ?hd (cs := #[.int .i64 0, .int .i64 0]) (t := 95) ?hr ?_; (case hd => rfl); (case hg => rfl); (case hr => first | (go_simp; done) | (go_simp; rfl)); intro gb624 hg w8 hbox hb; have n0_ := Aside0.mk (below_step (by repeat (first | (with_reducible first | exact HB.out | apply below_alloc | apply pw_below_drewN | apply below_drew1) | exact HB.out)) hb); have n1_ := Aside0.mk (hbox); have n2_ := Aside0.mk ((by rw [hg]; exact (below_size (by repeat (first | (with_reducible first | exact HB.out | apply below_alloc | apply pw_below_drewN | apply below_drew1) | exact HB.out))) : w.heap.size ≤ gb624)); have n3_ := Aside0.mk ((by rw [hg]; exact (below_size (by repeat (first | (with_reducible first | exact HB.out | apply below_alloc | apply pw_below_drewN | apply below_drew1) | exact HB.out))) : w.heap.size ≤ gb624)); clear HB; have HB := n0_; have BK624 := n1_; have GW624 := n2_; have GE624 := n3_; clear n0_ n1_ n2_ n3_; clear hb hbox hg) | ((with_reducible refine gate_callee (f := 86) rfl ?_); refine goesL_ (some 7) rfl rfl Try.func86 (by kernel_rfl) rfl #[.int .i64 a0, .int .i64 (-1000000000000000), .int .i64 1000000000000000] rfl (by (try simp only [List.map_toArray, List.map_cons, List.map_nil]); first | done | rfl | (simp only [List.length_drop, List.length_take]; rfl)) ?_; (with_reducible refine (impl_InRange.calls a0 (-1000000000000000) 1000000000000000 true _ A3.out).mono ?_); rintro e w' ⟨rfl, ⟨nd, rfl⟩⟩; refine ⟨_, rfl, ?_⟩; (try (rw [drewN_self w8]; generalize hq_ : World.drewN w8 _ = w8; have n0_ : Aside0 (w8.heap[gb624]? = some (.cells #[.int .i64 0, .int .i64 0] 95 (0, 0))) := ⟨by rw [← hq_]; exact (by (with_reducible repeat (first | refine blk_drewN ?_ _ | refine blk_drew ?_ | refine blk_alloc ?_ _)); exact BK624.out)⟩; have n1_ : Aside0 (Below w.heap.size w w8) := ⟨by rw [← hq_]; exact (by repeat (first | (with_reducible first | exact HB.out | apply below_alloc | apply pw_below_drewN | apply below_drew1 | refine below_set ?_ GE624.out) | exact HB.out))⟩; clear BK624 HB hq_; have BK624 := n0_; have HB := n1_; clear n0_ n1_))) | (go_at_call 86; (with_reducible refine (impl_InRange.calls a1 (-1000000000000000) 1000000000000000 true _ A5.out).mono ?_); rintro e w' ⟨rfl, ⟨nd, rfl⟩⟩; (try (rw [drewN_self w8]; generalize hq_ : World.drewN w8 _ = w8; have n0_ : Aside0 (w8.heap[gb624]? = some (.cells #[.int .i64 0, .int .i64 0] 95 (0, 0))) := ⟨by rw [← hq_]; exact (by (with_reducible repeat (first | refine blk_drewN ?_ _ | refine blk_drew ?_ | refine blk_alloc ?_ _)); exact BK624.out)⟩; have n1_ : Aside0 (Below w.heap.size w w8) := ⟨by rw [← hq_]; exact (by repeat (first | (with_reducible first | exact HB.out | apply below_alloc | apply pw_below_drewN | apply below_drew1 | refine below_set ?_ GE624.out) | exact HB.out))⟩; clear BK624 HB hq_; have BK624 := n0_; have HB := n1_; clear n0_ n1_))) | ((with_reducible refine gate_callee (f := 154) rfl ?_); refine goesL_ (some 17) rfl rfl Try.func154 (by kernel_rfl) rfl #[.int .i64 a0, .int .i64 a1] rfl (by (try simp only [List.map_toArray, List.map_cons, List.map_nil]); first | done | rfl | (simp only [List.length_drop, List.length_take]; rfl)) ?_; (with_reducible refine (impl_lowest.calls k a0 a1 t627 t628 t629 _ A7.out).mono ?_); rintro e w9 ⟨rfl, hb⟩; refine ⟨_, rfl, ?_⟩; have n0_ := Aside0.mk (blk_below (g := gb624) (o := .cells #[.int .i64 0, .int .i64 0] 95 (0, 0)) (by (with_reducible repeat (first | refine blk_drewN ?_ _ | refine blk_drew ?_ | refine blk_alloc ?_ _)); exact BK624.out) hb); have n1_ := Aside0.mk (below_step (by repeat (first | (with_reducible first | exact HB.out | apply below_alloc | apply pw_below_drewN | apply below_drew1 | refine below_set ?_ GE624.out) | exact HB.out)) hb); clear BK624; clear HB; have BK624 := n0_; have HB := n1_; clear n0_ n1_; (try clear hb); (try clear hb2); (try clear hk); (try clear hi); have hcz10_0 : w9.cell? ⟨gb624, 0, none⟩ = some (.int .i64 0) := (blk_cell BK624.out 0).trans rfl; have hcz10_1 : w9.cell? ⟨gb624, 1, none⟩ = some (.int .i64 0) := (blk_cell BK624.out 1).trans rfl; have hfz10_0 := blk_frozen BK624.out 0; have hfz10_1 := blk_frozen BK624.out 1))
   refine bodyPost_ret (results_ct rfl _ _ gb624 95 #[.int .i64 t627, .int .i64 t628] (0, 0) _ rfl (by (with_reducible repeat (first | refine blk_drewN ?_ _ | refine blk_drew ?_ | refine blk_alloc ?_ _)); refine blk_put (cs := #[.int .i64 t627, .int .i64 0]) ?_ 1 _ rfl; (with_reducible repeat (first | refine blk_drewN ?_ _ | refine blk_drew ?_ | refine blk_alloc ?_ _)); refine blk_put (cs := #[.int .i64 0, .int .i64 0]) ?_ 0 _ rfl; (with_reducible repeat (first | refine blk_drewN ?_ _ | refine blk_drew ?_ | refine blk_alloc ?_ _)); exact BK624.out) Try.underlying95 rfl (by kernel_rfl)) rfl ?_
   exact ⟨by first | rfl | (simp [errW_none, errW_some] <;> rfl) | (simp [*, errW_none, errW_some] <;> rfl), by repeat (first | (with_reducible first | exact HB.out | apply below_alloc | apply pw_below_drewN | apply below_drew1 | refine below_set ?_ GE624.out) | exact HB.out)⟩
  ·
   replace c6 := Bool.eq_false_iff.mpr c6
   subst c6
   rw [if_neg (show ¬ (false = true) by decide)] at H
   simp only [Option.some.injEq, Prod.mk.injEq] at H
   obtain ⟨rfl, rfl, rfl⟩ := H
   go_enter Try.func119, Try.ntmps119
   go_wp2_with (first | ((with_reducible refine gate_dst (N := 4) rfl ?_); refine box_event ?hg (N := 4) ?hd (cs := #[.int .i64 0, .int .i64 0]) (t := 95) ?hr ?_; (case hd => rfl); (case hg => rfl); (case hr => first | (go_simp; done) | (go_simp; rfl)); intro gb624 hg w11 hbox hb; have n0_ := Aside0.mk (below_step (by repeat (first | (with_reducible first | exact HB.out | apply below_alloc | apply pw_below_drewN | apply below_drew1) | exact HB.out)) hb); have n1_ := Aside0.mk (hbox); have n2_ := Aside0.mk ((by rw [hg]; exact (below_size (by repeat (first | (with_reducible first | exact HB.out | apply below_alloc | apply pw_below_drewN | apply below_drew1) | exact HB.out))) : w.heap.size ≤ gb624)); have n3_ := Aside0.mk ((by rw [hg]; exact (below_size (by repeat (first | (with_reducible first | exact HB.out | apply below_alloc | apply pw_below_drewN | apply below_drew1) | exact HB.out))) : w.heap.size ≤ gb624)); clear HB; have HB := n0_; have BK624 := n1_; have GW624 := n2_; have GE624 := n3_; clear n0_ n1_ n2_ n3_; clear hb hbox hg) | ((with_reducible refine gate_callee (f := 86) rfl ?_); refine goesL_ (some 7) rfl rfl Try.func86 (by kernel_rfl) rfl #[.int .i64 a0, .int .i64 (-1000000000000000), .int .i64 1000000000000000] rfl (by (try simp only [List.map_toArray, List.map_cons, List.map_nil]); first | done | rfl | (simp only [List.length_drop, List.length_take]; rfl)) ?_; (with_reducible refine (impl_InRange.calls a0 (-1000000000000000) 1000000000000000 true _ A3.out).mono ?_); rintro e w' ⟨rfl, ⟨nd, rfl⟩⟩; refine ⟨_, rfl, ?_⟩; (try (rw [drewN_self w11]; generalize hq_ : World.drewN w11 _ = w11; have n0_ : Aside0 (w11.heap[gb624]? = some (.cells #[.int .i64 0, .int .i64 0] 95 (0, 0))) := ⟨by rw [← hq_]; exact (by (with_reducible repeat (first | refine blk_drewN ?_ _ | refine blk_drew ?_ | refine blk_alloc ?_ _)); exact BK624.out)⟩; have n1_ : Aside0 (Below w.heap.size w w11) := ⟨by rw [← hq_]; exact (by repeat (first | (with_reducible first | exact HB.out | apply below_alloc | apply pw_below_drewN | apply below_drew1 | refine below_set ?_ GE624.out) | exact HB.out))⟩; clear BK624 HB hq_; have BK624 := n0_; have HB := n1_; clear n0_ n1_))) | (go_at_call 86; (with_reducible refine (impl_InRange.calls a1 (-1000000000000000) 1000000000000000 false _ A5.out).mono ?_); rintro e w' ⟨rfl, ⟨nd, rfl⟩⟩; (try (rw [drewN_self w11]; generalize hq_ : World.drewN w11 _ = w11; have n0_ : Aside0 (w11.heap[gb624]? = some (.cells #[.int .i64 0, .int .i64 0] 95 (0, 0))) := ⟨by rw [← hq_]; exact (by (with_reducible repeat (first | refine blk_drewN ?_ _ | refine blk_drew ?_ | refine blk_alloc ?_ _)); exact BK624.out)⟩; have n1_ : Aside0 (Below w.heap.size w w11) := ⟨by rw [← hq_]; exact (by repeat (first | (with_reducible first | exact HB.out | apply below_alloc | apply pw_below_drewN | apply below_drew1 | refine below_set ?_ GE624.out) | exact HB.out))⟩; clear BK624 HB hq_; have BK624 := n0_; have HB := n1_; clear n0_ n1_)); have hcz12_0 : w11.cell? ⟨gb624, 0, none⟩ = some (.int .i64 0) := (blk_cell BK624.out 0).trans rfl; have hcz12_1 : w11.cell? ⟨gb624, 1, none⟩ = some (.int .i64 0) := (blk_cell BK624.out 1).trans rfl; have hfz12_0 := blk_frozen BK624.out 0; have hfz12_1 := blk_frozen BK624.out 1))
   refine bodyPost_ret (results_ct rfl _ _ gb624 95 #[.int .i64 0, .int .i64 0] (0, 0) _ rfl (by (with_reducible repeat (first | refine blk_drewN ?_ _ | refine blk_drew ?_ | refine blk_alloc ?_ _)); refine blk_put (cs := #[.int .i64 0, .int .i64 0]) ?_ 1 _ rfl; (with_reducible repeat (first | refine blk_drewN ?_ _ | refine blk_drew ?_ | refine blk_alloc ?_ _)); refine blk_put (cs := #[.int .i64 0, .int .i64 0]) ?_ 0 _ rfl; (with_reducible repeat (first | refine blk_drewN ?_ _ | refine blk_drew ?_ | refine blk_alloc ?_ _)); exact BK624.out) Try.underlying95 rfl (by kernel_rfl)) rfl ?_
   exact ⟨by first | rfl | (simp [errW_none, errW_some] <;> rfl) | (simp [*, errW_none, errW_some] <;> rfl), by repeat (first | (with_reducible first | exact HB.out | apply below_alloc | apply pw_below_drewN | apply below_drew1 | refine below_set ?_ GE624.out) | exact HB.out)⟩
 ·
  replace c4 := Bool.eq_false_iff.mpr c4
  subst c4
  rw [if_neg (show ¬ (false = true) by decide)] at H
  simp only [Option.some.injEq, Prod.mk.injEq] at H
  obtain ⟨rfl, rfl, rfl⟩ := H
  go_enter Try.func119, Try.ntmps119
  go_wp2_with (first | ((with_reducible refine gate_dst (N := 4) rfl ?_); refine box_event ?hg (N := 4) ?hd (cs := #[.int .i64 0, .int .i64 0]) (t := 95) ?hr ?_; (case hd => rfl); (case hg => rfl); (case hr => first | (go_simp; done) | (go_simp; rfl)); intro gb624 hg w13 hbox hb; have n0_ := Aside0.mk (below_step (by repeat (first | (with_reducible first | exact HB.out | apply below_alloc | apply pw_below_drewN | apply below_drew1) | exact HB.out)) hb); have n1_ := Aside0.mk (hbox); have n2_ := Aside0.mk ((by rw [hg]; exact (below_size (by repeat (first | (with_reducible first | exact HB.out | apply below_alloc | apply pw_below_drewN | apply below_drew1) | exact HB.out))) : w.heap.size ≤ gb624)); have n3_ := Aside0.mk ((by rw [hg]; exact (below_size (by repeat (first | (with_reducible first | exact HB.out | apply below_alloc | apply pw_below_drewN | apply below_drew1) | exact HB.out))) : w.heap.size ≤ gb624)); clear HB; have HB := n0_; have BK624 := n1_; have GW624 := n2_; have GE624 := n3_; clear n0_ n1_ n2_ n3_; clear hb hbox hg) | ((with_reducible refine gate_callee (f := 86) rfl ?_); refine goesL_ (some 7) rfl rfl Try.func86 (by kernel_rfl) rfl #[.int .i64 a0, .int .i64 (-1000000000000000), .int .i64 1000000000000000] rfl (by (try simp only [List.map_toArray, List.map_cons, List.map_nil]); first | done | rfl | (simp only [List.length_drop, List.length_take]; rfl)) ?_; (with_reducible refine (impl_InRange.calls a0 (-1000000000000000) 1000000000000000 false _ A3.out).mono ?_); rintro e w' ⟨rfl, ⟨nd, rfl⟩⟩; refine ⟨_, rfl, ?_⟩; (try (rw [drewN_self w13]; generalize hq_ : World.drewN w13 _ = w13; have n0_ : Aside0 (w13.heap[gb624]? = some (.cells #[.int .i64 0, .int .i64 0] 95 (0, 0))) := ⟨by rw [← hq_]; exact (by (with_reducible repeat (first | refine blk_drewN ?_ _ | refine blk_drew ?_ | refine blk_alloc ?_ _)); exact BK624.out)⟩; have n1_ : Aside0 (Below w.heap.size w w13) := ⟨by rw [← hq_]; exact (by repeat (first | (with_reducible first | exact HB.out | apply below_alloc | apply pw_below_drewN | apply below_drew1 | refine below_set ?_ GE624.out) | exact HB.out))⟩; clear BK624 HB hq_; have BK624 := n0_; have HB := n1_; clear n0_ n1_)); have hcz14_0 : w13.cell? ⟨gb624, 0, none⟩ = some (.int .i64 0) := (blk_cell BK624.out 0).trans rfl; have hcz14_1 : w13.cell? ⟨gb624, 1, none⟩ = some (.int .i64 0) := (blk_cell BK624.out 1).trans rfl; have hfz14_0 := blk_frozen BK624.out 0; have hfz14_1 := blk_frozen BK624.out 1))
  refine bodyPost_ret (results_ct rfl _ _ gb624 95 #[.int .i64 0, .int .i64 0] (0, 0) _ rfl (by (with_reducible repeat (first | refine blk_drewN ?_ _ | refine blk_drew ?_ | refine blk_alloc ?_ _)); refine blk_put (cs := #[.int .i64 0, .int .i64 0]) ?_ 1 _ rfl; (with_reducible repeat (first | refine blk_drewN ?_ _ | refine blk_drew ?_ | refine blk_alloc ?_ _)); refine blk_put (cs := #[.int .i64 0, .int .i64 0]) ?_ 0 _ rfl; (with_reducible repeat (first | refine blk_drewN ?_ _ | refine blk_drew ?_ | refine blk_alloc ?_ _)); exact BK624.out) Try.underlying95 rfl (by kernel_rfl)) rfl ?_
  exact ⟨by first | rfl | (simp [errW_none, errW_some] <;> rfl) | (simp [*, errW_none, errW_some] <;> rfl), by repeat (first | (with_reducible first | exact HB.out | apply below_alloc | apply pw_below_drewN | apply below_drew1 | refine below_set ?_ GE624.out) | exact HB.out)⟩
end Go.Proofs.Ytbhlmeghbfmgiaa.F

namespace Go.Proofs.Ytbhlmeghbfmgiaa.F
open Go.RowKit Go.Proofs.YtbhlmeghbfmgiaaW.PrintWords Go.Proofs.YtbhlmeghbfmgiaaW.PrintLast Go.Proofs.YtbhlmeghbfmgiaaW.PrintMore
attribute [local go_sem] max2_int min2_int max_two min_two max_three min_three max_four min_four
set_option linter.unusedVariables false
set_option linter.unusedSimpArgs false
def impl_AddRatio.f (k : Nat) (a0_0 : Int) (a0_1 : Int) (a1_0 : Int) (a1_1 : Int) : Option (Int × Int × Bool) := (impl_IsRatio.f k a0_0 a0_1).bind fun t633 => (if t633 = true then ((impl_IsRatio.f k a1_0 a1_1).bind fun t634 => (if t634 = true then ((impl_lowest.f k (wrap64 ((wrap64 (a0_0 * a1_1)) + (wrap64 (a1_0 * a0_1)))) (wrap64 (a0_1 * a1_1))).bind fun bt635 => (some (bt635.1, bt635.2.1, bt635.2.2))) else (some (0, 0, false)))) else (some (0, 0, false)))
set_option maxHeartbeats 8000000 in
set_option maxRecDepth 100000 in
theorem impl_AddRatio.calls (k : Nat) (a0_0 : Int) (a0_1 : Int) (a1_0 : Int) (a1_1 : Int) (r1 : Int) (r2 : Int) (r3 : Bool) (w : World) (h : impl_AddRatio.f k a0_0 a0_1 a1_0 a1_1 = some (r1, r2, r3)) :
  Calls Try.prog 120 #[.agg #[.int .i64 a0_0, .int .i64 a0_1], .agg #[.int .i64 a1_0, .int .i64 a1_1]] w fun e w' => e = .returned (.tuple #[.agg #[.int .i64 r1, .int .i64 r2], .bool r3]) ∧ Below w.heap.size w w' := by
 have hu95 := Try.underlying95
 have HB := Aside0.mk (Below.refl w.heap.size w)
 have H : ((impl_IsRatio.f k a0_0 a0_1).bind fun t633 => (if t633 = true then ((impl_IsRatio.f k a1_0 a1_1).bind fun t634 => (if t634 = true then ((impl_lowest.f k (wrap64 ((wrap64 (a0_0 * a1_1)) + (wrap64 (a1_0 * a0_1)))) (wrap64 (a0_1 * a1_1))).bind fun bt635 => (some (bt635.1, bt635.2.1, bt635.2.2))) else (some (0, 0, false)))) else (some (0, 0, false)))) = some (r1, r2, r3) := h
 clear h
 replace H := Option.bind_eq_some_iff.mp H
 obtain ⟨t633, A30, H⟩ := H
 try dsimp only at H
 have A3 := Aside0.mk A30
 clear A30
 by_cases c4 : t633 = true
 ·
  subst c4
  rw [if_pos rfl] at H
  replace H := Option.bind_eq_some_iff.mp H
  obtain ⟨t634, A50, H⟩ := H
  try dsimp only at H
  have A5 := Aside0.mk A50
  clear A50
  by_cases c6 : t634 = true
  ·
   subst c6
   rw [if_pos rfl] at H
   replace H := Option.bind_eq_some_iff.mp H
   obtain ⟨⟨t635, t636, t637⟩, A70, H⟩ := H
   try dsimp only at H
   have A7 := Aside0.mk A70
   clear A70
   simp only [Option.some.injEq, Prod.mk.injEq] at H
   obtain ⟨rfl, rfl, rfl⟩ := H
   go_enter Try.func120, Try.ntmps120
   go_wp2_with (first | ((with_reducible refine gate_dst (N := 2) rfl ?_); refine box_event ?hg (N := 2) ?hd (cs := #[.int .i64 a0_0, .int .i64 a0_1]) (t := 95) ?hr ?_; (case hd => rfl); (case hg => rfl); (case hr => first | (go_simp; done) | (go_simp; rfl)); intro gb630 hg w8 hbox hb; have n0_ := Aside0.mk (below_step (by repeat (first | (with_reducible first | exact HB.out | apply below_alloc | apply pw_below_drewN | apply below_drew1) | exact HB.out)) hb); have n1_ := Aside0.mk (hbox); have n2_ := Aside0.mk ((by rw [hg]; exact (below_size (by repeat (first | (with_reducible first | exact HB.out | apply below_alloc | apply pw_below_drewN | apply below_drew1) | exact HB.out))) : w.heap.size ≤ gb630)); have n3_ := Aside0.mk ((by rw [hg]; exact (below_size (by repeat (first | (with_reducible first | exact HB.out | apply below_alloc | apply pw_below_drewN | apply below_drew1) | exact HB.out))) : w.heap.size ≤ gb630)); clear HB; have HB := n0_; have BK630 := n1_; have GW630 := n2_; have GE630 := n3_; clear n0_ n1_ n2_ n3_; clear hb hbox hg) | ((with_reducible refine gate_dst (N := 3) rfl ?_); refine box_event ?hg (N := 3) ?hd (cs := #[.int .i64 a1_0, .int .i64 a1_1]) (t := 95) ?hr ?_; (case hd => rfl); (case hg => rfl); (case hr => first | (go_simp; done) | (go_simp; rfl)); intro gb631 hg w9 hbox hb; have n0_ := Aside0.mk (blk_below (g := gb630) (o := .cells #[.int .i64 a0_0, .int .i64 a0_1] 95 (0, 0)) (by (with_reducible repeat (first | refine blk_drewN ?_ _ | refine blk_drew ?_ | refine blk_alloc ?_ _)); exact BK630.out) hb); have n1_ := Aside0.mk (below_step (by repeat (first | (with_reducible first | exact HB.out | apply below_alloc | apply pw_below_drewN | apply below_drew1 | refine below_set ?_ GE630.out) | exact HB.out)) hb); have n2_ := Aside0.mk (hbox); have n3_ := Aside0.mk ((by rw [hg]; exact (below_size (by repeat (first | (with_reducible first | exact HB.out | apply below_alloc | apply pw_below_drewN | apply below_drew1 | refine below_set ?_ GE630.out) | exact HB.out))) : w.heap.size ≤ gb631)); have n4_ := Aside0.mk ((by rw [hg]; exact (below_size (by repeat (first | (with_reducible first | exact HB.out | apply below_alloc | apply pw_below_drewN | apply below_drew1 | refine below_set ?_ GE630.out) | exact HB.out))) : w.heap.size ≤ gb631)); have n5_ := Aside0.mk ((by rw [hg]; exact Nat.ne_of_lt (blk_lt (g := gb630) (o := .cells #[.int .i64 a0_0, .int .i64 a0_1] 95 (0, 0)) (by (with_reducible repeat (first | refine blk_drewN ?_ _ | refine blk_drew ?_ | refine blk_alloc ?_ _)); exact BK630.out)) : gb630 ≠ gb631)); have n6_ := Aside0.mk ((by rw [hg]; exact Nat.ne_of_gt (blk_lt (g := gb630) (o := .cells #[.int .i64 a0_0, .int .i64 a0_1] 95 (0, 0)) (by (with_reducible repeat (first | refine blk_drewN ?_ _ | refine blk_drew ?_ | refine blk_alloc ?_ _)); exact BK630.out)) : gb631 ≠ gb630)); clear BK630; clear HB; have BK630 := n0_; have HB := n1_; have BK631 := n2_; have GW631 := n3_; have GE631 := n4_; have NB630_631 := n5_; have NB631_630 := n6_; clear n0_ n1_ n2_ n3_ n4_ n5_ n6_; clear hb hbox hg) | ((with_reducible refine gate_dst (N := 4) rfl ?_); refine box_event ?hg (N := 4) ?hd (cs := #[.int .i64 0, .int .i64 0]) (t := 95) ?hr ?_; (case hd => rfl); (case hg => rfl); (case hr => first | (go_simp; done) | (go_simp; rfl)); intro gb632 hg w10 hbox hb; have n0_ := Aside0.mk (blk_below (g := gb630) (o := .cells #[.int .i64 a0_0, .int .i64 a0_1] 95 (0, 0)) (by (with_reducible repeat (first | refine blk_drewN ?_ _ | refine blk_drew ?_ | refine blk_alloc ?_ _)); exact BK630.out) hb); have n1_ := Aside0.mk (blk_below (g := gb631) (o := .cells #[.int .i64 a1_0, .int .i64 a1_1] 95 (0, 0)) (by (with_reducible repeat (first | refine blk_drewN ?_ _ | refine blk_drew ?_ | refine blk_alloc ?_ _)); exact BK631.out) hb); have n2_ := Aside0.mk (below_step (by repeat (first | (with_reducible first | exact HB.out | apply below_alloc | apply pw_below_drewN | apply below_drew1 | refine below_set ?_ GE630.out | refine below_set ?_ GE631.out) | exact HB.out)) hb); have n3_ := Aside0.mk (hbox); have n4_ := Aside0.mk ((by rw [hg]; exact (below_size (by repeat (first | (with_reducible first | exact HB.out | apply below_alloc | apply pw_below_drewN | apply below_drew1 | refine below_set ?_ GE630.out | refine below_set ?_ GE631.out) | exact HB.out))) : w.heap.size ≤ gb632)); have n5_ := Aside0.mk ((by rw [hg]; exact (below_size (by repeat (first | (with_reducible first | exact HB.out | apply below_alloc | apply pw_below_drewN | apply below_drew1 | refine below_set ?_ GE630.out | refine below_set ?_ GE631.out) | exact HB.out))) : w.heap.size ≤ gb632)); have n6_ := Aside0.mk ((by rw [hg]; exact Nat.ne_of_lt (blk_lt (g := gb630) (o := .cells #[.int .i64 a0_0, .int .i64 a0_1] 95 (0, 0)) (by (with_reducible repeat (first | refine blk_drewN ?_ _ | refine blk_drew ?_ | refine blk_alloc ?_ _)); exact BK630.out)) : gb630 ≠ gb632)); have n7_ := Aside0.mk ((by rw [hg]; exact Nat.ne_of_gt (blk_lt (g := gb630) (o := .cells #[.int .i64 a0_0, .int .i64 a0_1] 95 (0, 0)) (by (with_reducible repeat (first | refine blk_drewN ?_ _ | refine blk_drew ?_ | refine blk_alloc ?_ _)); exact BK630.out)) : gb632 ≠ gb630)); have n8_ := Aside0.mk ((by rw [hg]; exact Nat.ne_of_lt (blk_lt (g := gb631) (o := .cells #[.int .i64 a1_0, .int .i64 a1_1] 95 (0, 0)) (by (with_reducible repeat (first | refine blk_drewN ?_ _ | refine blk_drew ?_ | refine blk_alloc ?_ _)); exact BK631.out)) : gb631 ≠ gb632)); have n9_ := Aside0.mk ((by rw [hg]; exact Nat.ne_of_gt (blk_lt (g := gb631) (o := .cells #[.int .i64 a1_0, .int .i64 a1_1] 95 (0, 0)) (by (with_reducible repeat (first | refine blk_drewN ?_ _ | refine blk_drew ?_ | refine blk_alloc ?_ _)); exact BK631.out)) : gb632 ≠ gb631)); clear BK630; clear BK631; clear HB; have BK630 := n0_; have BK631 := n1_; have HB := n2_; have BK632 := n3_; have GW632 := n4_; have GE632 := n5_; have NB630_632 := n6_; have NB632_630 := n7_; have NB631_632 := n8_; have NB632_631 := n9_; clear n0_ n1_ n2_ n3_ n4_ n5_ n6_ n7_ n8_ n9_; clear hb hbox hg; have hnb11 := NB630_631.out; have hnc11 := NB631_630.out; have hnb12 := NB630_632.out; have hnc12 := NB632_630.out; have hcz13_0 : w10.cell? ⟨gb630, 0, none⟩ = some (.int .i64 a0_0) := (blk_cell BK630.out 0).trans rfl; have hcz13_1 : w10.cell? ⟨gb630, 1, none⟩ = some (.int .i64 a0_1) := (blk_cell BK630.out 1).trans rfl; have hfz13_0 := blk_frozen BK630.out 0; have hfz13_1 := blk_frozen BK630.out 1) | ((with_reducible refine gate_callee (f := 62) rfl ?_); refine goesL_ (some 7) rfl rfl Try.func62 (by kernel_rfl) rfl #[.agg #[.int .i64 a0_0, .int .i64 a0_1]] rfl (by (try simp only [List.map_toArray, List.map_cons, List.map_nil]); first | done | rfl | (simp only [List.length_drop, List.length_take]; rfl)) ?_; (with_reducible refine (impl_IsRatio.calls k a0_0 a0_1 true _ A3.out).mono ?_); rintro e w14 ⟨rfl, hb⟩; refine ⟨_, rfl, ?_⟩; have n0_ := Aside0.mk (blk_below (g := gb630) (o := .cells #[.int .i64 a0_0, .int .i64 a0_1] 95 (0, 0)) (by (with_reducible repeat (first | refine blk_drewN ?_ _ | refine blk_drew ?_ | refine blk_alloc ?_ _)); exact BK630.out) hb); have n1_ := Aside0.mk (blk_below (g := gb631) (o := .cells #[.int .i64 a1_0, .int .i64 a1_1] 95 (0, 0)) (by (with_reducible repeat (first | refine blk_drewN ?_ _ | refine blk_drew ?_ | refine blk_alloc ?_ _)); exact BK631.out) hb); have n2_ := Aside0.mk (blk_below (g := gb632) (o := .cells #[.int .i64 0, .int .i64 0] 95 (0, 0)) (by (with_reducible repeat (first | refine blk_drewN ?_ _ | refine blk_drew ?_ | refine blk_alloc ?_ _)); exact BK632.out) hb); have n3_ := Aside0.mk (below_step (by repeat (first | (with_reducible first | exact HB.out | apply below_alloc | apply pw_below_drewN | apply below_drew1 | refine below_set ?_ GE630.out | refine below_set ?_ GE631.out | refine below_set ?_ GE632.out) | exact HB.out)) hb); clear BK630; clear BK631; clear BK632; clear HB; have BK630 := n0_; have BK631 := n1_; have BK632 := n2_; have HB := n3_; clear n0_ n1_ n2_ n3_; (try clear hb); (try clear hb2); (try clear hk); (try clear hi); have hnb15 := NB631_632.out; have hnc15 := NB632_631.out; have hcz16_0 : w14.cell? ⟨gb631, 0, none⟩ = some (.int .i64 a1_0) := (blk_cell BK631.out 0).trans rfl; have hcz16_1 : w14.cell? ⟨gb631, 1, none⟩ = some (.int .i64 a1_1) := (blk_cell BK631.out 1).trans rfl; have hfz16_0 := blk_frozen BK631.out 0; have hfz16_1 := blk_frozen BK631.out 1) | (go_at_call 62; (with_reducible refine (impl_IsRatio.calls k a1_0 a1_1 true _ A5.out).mono ?_); rintro e w17 ⟨rfl, hb⟩; have n0_ := Aside0.mk (blk_below (g := gb630) (o := .cells #[.int .i64 a0_0, .int .i64 a0_1] 95 (0, 0)) (by (with_reducible repeat (first | refine blk_drewN ?_ _ | refine blk_drew ?_ | refine blk_alloc ?_ _)); exact BK630.out) hb); have n1_ := Aside0.mk (blk_below (g := gb631) (o := .cells #[.int .i64 a1_0, .int .i64 a1_1] 95 (0, 0)) (by (with_reducible repeat (first | refine blk_drewN ?_ _ | refine blk_drew ?_ | refine blk_alloc ?_ _)); exact BK631.out) hb); have n2_ := Aside0.mk (blk_below (g := gb632) (o := .cells #[.int .i64 0, .int .i64 0] 95 (0, 0)) (by (with_reducible repeat (first | refine blk_drewN ?_ _ | refine blk_drew ?_ | refine blk_alloc ?_ _)); exact BK632.out) hb); have n3_ := Aside0.mk (below_step (by repeat (first | (with_reducible first | exact HB.out | apply below_alloc | apply pw_below_drewN | apply below_drew1 | refine below_set ?_ GE630.out | refine below_set ?_ GE631.out | refine below_set ?_ GE632.out) | exact HB.out)) hb); clear BK630; clear BK631; clear BK632; clear HB; have BK630 := n0_; have BK631 := n1_; have BK632 := n2_; have HB := n3_; clear n0_ n1_ n2_ n3_; (try clear hb); (try clear hb2); (try clear hk); (try clear hi); have hcz18_0 : w17.cell? ⟨gb630, 0, none⟩ = some (.int .i64 a0_0) := (blk_cell BK630.out 0).trans rfl; have hcz18_1 : w17.cell? ⟨gb630, 1, none⟩ = some (.int .i64 a0_1) := (blk_cell BK630.out 1).trans rfl; have hfz18_0 := blk_frozen BK630.out 0; have hfz18_1 := blk_frozen BK630.out 1; have hcz19_0 : w17.cell? ⟨gb631, 0, none⟩ = some (.int .i64 a1_0) := (blk_cell BK631.out 0).trans rfl; have hcz19_1 : w17.cell? ⟨gb631, 1, none⟩ = some (.int .i64 a1_1) := (blk_cell BK631.out 1).trans rfl; have hfz19_0 := blk_frozen BK631.out 0; have hfz19_1 := blk_frozen BK631.out 1) | ((with_reducible refine gate_callee (f := 154) rfl ?_); refine goesL_ (some 31) rfl rfl Try.func154 (by kernel_rfl) rfl #[.int .i64 (wrap64 ((wrap64 (a0_0 * a1_1)) + (wrap64 (a1_0 * a0_1)))), .int .i64 (wrap64 (a0_1 * a1_1))] rfl (by (try simp only [List.map_toArray, List.map_cons, List.map_nil]); first | done | rfl | (simp only [List.length_drop, List.length_take]; rfl)) ?_; (with_reducible refine (impl_lowest.calls k (wrap64 ((wrap64 (a0_0 * a1_1)) + (wrap64 (a1_0 * a0_1)))) (wrap64 (a0_1 * a1_1)) t635 t636 t637 _ A7.out).mono ?_); rintro e w20 ⟨rfl, hb⟩; refine ⟨_, rfl, ?_⟩; have n0_ := Aside0.mk (blk_below (g := gb630) (o := .cells #[.int .i64 a0_0, .int .i64 a0_1] 95 (0, 0)) (by (with_reducible repeat (first | refine blk_drewN ?_ _ | refine blk_drew ?_ | refine blk_alloc ?_ _)); exact BK630.out) hb); have n1_ := Aside0.mk (blk_below (g := gb631) (o := .cells #[.int .i64 a1_0, .int .i64 a1_1] 95 (0, 0)) (by (with_reducible repeat (first | refine blk_drewN ?_ _ | refine blk_drew ?_ | refine blk_alloc ?_ _)); exact BK631.out) hb); have n2_ := Aside0.mk (blk_below (g := gb632) (o := .cells #[.int .i64 0, .int .i64 0] 95 (0, 0)) (by (with_reducible repeat (first | refine blk_drewN ?_ _ | refine blk_drew ?_ | refine blk_alloc ?_ _)); exact BK632.out) hb); have n3_ := Aside0.mk (below_step (by repeat (first | (with_reducible first | exact HB.out | apply below_alloc | apply pw_below_drewN | apply below_drew1 | refine below_set ?_ GE630.out | refine below_set ?_ GE631.out | refine below_set ?_ GE632.out) | exact HB.out)) hb); clear BK630; clear BK631; clear BK632; clear HB; have BK630 := n0_; have BK631 := n1_; have BK632 := n2_; have HB := n3_; clear n0_ n1_ n2_ n3_; (try clear hb); (try clear hb2); (try clear hk); (try clear hi); have hcz21_0 : w20.cell? ⟨gb632, 0, none⟩ = some (.int .i64 0) := (blk_cell BK632.out 0).trans rfl; have hcz21_1 : w20.cell? ⟨gb632, 1, none⟩ = some (.int .i64 0) := (blk_cell BK632.out 1).trans rfl; have hfz21_0 := blk_frozen BK632.out 0; have hfz21_1 := blk_frozen BK632.out 1))
   refine bodyPost_ret (results_ct rfl _ _ gb632 95 #[.int .i64 t635, .int .i64 t636] (0, 0) _ rfl (by (with_reducible repeat (first | refine blk_drewN ?_ _ | refine blk_drew ?_ | refine blk_alloc ?_ _)); refine blk_put (cs := #[.int .i64 t635, .int .i64 0]) ?_ 1 _ rfl; (with_reducible repeat (first | refine blk_drewN ?_ _ | refine blk_drew ?_ | refine blk_alloc ?_ _)); refine blk_put (cs := #[.int .i64 0, .int .i64 0]) ?_ 0 _ rfl; (with_reducible repeat (first | refine blk_drewN ?_ _ | refine blk_drew ?_ | refine blk_alloc ?_ _)); exact BK632.out) Try.underlying95 rfl (by kernel_rfl)) rfl ?_
   exact ⟨by first | rfl | (simp [errW_none, errW_some] <;> rfl) | (simp [*, errW_none, errW_some] <;> rfl), by repeat (first | (with_reducible first | exact HB.out | apply below_alloc | apply pw_below_drewN | apply below_drew1 | refine below_set ?_ GE630.out | refine below_set ?_ GE631.out | refine below_set ?_ GE632.out) | exact HB.out)⟩
  ·
   replace c6 := Bool.eq_false_iff.mpr c6
   subst c6
   rw [if_neg (show ¬ (false = true) by decide)] at H
   simp only [Option.some.injEq, Prod.mk.injEq] at H
   obtain ⟨rfl, rfl, rfl⟩ := H
   go_enter Try.func120, Try.ntmps120
   go_wp2_with (first | ((with_reducible refine gate_dst (N := 2) rfl ?_); refine box_event ?hg (N := 2) ?hd (cs := #[.int .i64 a0_0, .int .i64 a0_1]) (t := 95) ?hr ?_; (case hd => rfl); (case hg => rfl); (case hr => first | (go_simp; done) | (go_simp; rfl)); intro gb630 hg w22 hbox hb; have n0_ := Aside0.mk (below_step (by repeat (first | (with_reducible first | exact HB.out | apply below_alloc | apply pw_below_drewN | apply below_drew1) | exact HB.out)) hb); have n1_ := Aside0.mk (hbox); have n2_ := Aside0.mk ((by rw [hg]; exact (below_size (by repeat (first | (with_reducible first | exact HB.out | apply below_alloc | apply pw_below_drewN | apply below_drew1) | exact HB.out))) : w.heap.size ≤ gb630)); have n3_ := Aside0.mk ((by rw [hg]; exact (below_size (by repeat (first | (with_reducible first | exact HB.out | apply below_alloc | apply pw_below_drewN | apply below_drew1) | exact HB.out))) : w.heap.size ≤ gb630)); clear HB; have HB := n0_; have BK630 := n1_; have GW630 := n2_; have GE630 := n3_; clear n0_ n1_ n2_ n3_; clear hb hbox hg) | ((with_reducible refine gate_dst (N := 3) rfl ?_); refine box_event ?hg (N := 3) ?hd (cs := #[.int .i64 a1_0, .int .i64 a1_1]) (t := 95) ?hr ?_; (case hd => rfl); (case hg => rfl); (case hr => first | (go_simp; done) | (go_simp; rfl)); intro gb631 hg w23 hbox hb; have n0_ := Aside0.mk (blk_below (g := gb630) (o := .cells #[.int .i64 a0_0, .int .i64 a0_1] 95 (0, 0)) (by (with_reducible repeat (first | refine blk_drewN ?_ _ | refine blk_drew ?_ | refine blk_alloc ?_ _)); exact BK630.out) hb); have n1_ := Aside0.mk (below_step (by repeat (first | (with_reducible first | exact HB.out | apply below_alloc | apply pw_below_drewN | apply below_drew1 | refine below_set ?_ GE630.out) | exact HB.out)) hb); have n2_ := Aside0.mk (hbox); have n3_ := Aside0.mk ((by rw [hg]; exact (below_size (by repeat (first | (with_reducible first | exact HB.out | apply below_alloc | apply pw_below_drewN | apply below_drew1 | refine below_set ?_ GE630.out) | exact HB.out))) : w.heap.size ≤ gb631)); have n4_ := Aside0.mk ((by rw [hg]; exact (below_size (by repeat (first | (with_reducible first | exact HB.out | apply below_alloc | apply pw_below_drewN | apply below_drew1 | refine below_set ?_ GE630.out) | exact HB.out))) : w.heap.size ≤ gb631)); have n5_ := Aside0.mk ((by rw [hg]; exact Nat.ne_of_lt (blk_lt (g := gb630) (o := .cells #[.int .i64 a0_0, .int .i64 a0_1] 95 (0, 0)) (by (with_reducible repeat (first | refine blk_drewN ?_ _ | refine blk_drew ?_ | refine blk_alloc ?_ _)); exact BK630.out)) : gb630 ≠ gb631)); have n6_ := Aside0.mk ((by rw [hg]; exact Nat.ne_of_gt (blk_lt (g := gb630) (o := .cells #[.int .i64 a0_0, .int .i64 a0_1] 95 (0, 0)) (by (with_reducible repeat (first | refine blk_drewN ?_ _ | refine blk_drew ?_ | refine blk_alloc ?_ _)); exact BK630.out)) : gb631 ≠ gb630)); clear BK630; clear HB; have BK630 := n0_; have HB := n1_; have BK631 := n2_; have GW631 := n3_; have GE631 := n4_; have NB630_631 := n5_; have NB631_630 := n6_; clear n0_ n1_ n2_ n3_ n4_ n5_ n6_; clear hb hbox hg) | ((with_reducible refine gate_dst (N := 4) rfl ?_); refine box_event ?hg (N := 4) ?hd (cs := #[.int .i64 0, .int .i64 0]) (t := 95) ?hr ?_; (case hd => rfl); (case hg => rfl); (case hr => first | (go_simp; done) | (go_simp; rfl)); intro gb632 hg w24 hbox hb; have n0_ := Aside0.mk (blk_below (g := gb630) (o := .cells #[.int .i64 a0_0, .int .i64 a0_1] 95 (0, 0)) (by (with_reducible repeat (first | refine blk_drewN ?_ _ | refine blk_drew ?_ | refine blk_alloc ?_ _)); exact BK630.out) hb); have n1_ := Aside0.mk (blk_below (g := gb631) (o := .cells #[.int .i64 a1_0, .int .i64 a1_1] 95 (0, 0)) (by (with_reducible repeat (first | refine blk_drewN ?_ _ | refine blk_drew ?_ | refine blk_alloc ?_ _)); exact BK631.out) hb); have n2_ := Aside0.mk (below_step (by repeat (first | (with_reducible first | exact HB.out | apply below_alloc | apply pw_below_drewN | apply below_drew1 | refine below_set ?_ GE630.out | refine below_set ?_ GE631.out) | exact HB.out)) hb); have n3_ := Aside0.mk (hbox); have n4_ := Aside0.mk ((by rw [hg]; exact (below_size (by repeat (first | (with_reducible first | exact HB.out | apply below_alloc | apply pw_below_drewN | apply below_drew1 | refine below_set ?_ GE630.out | refine below_set ?_ GE631.out) | exact HB.out))) : w.heap.size ≤ gb632)); have n5_ := Aside0.mk ((by rw [hg]; exact (below_size (by repeat (first | (with_reducible first | exact HB.out | apply below_alloc | apply pw_below_drewN | apply below_drew1 | refine below_set ?_ GE630.out | refine below_set ?_ GE631.out) | exact HB.out))) : w.heap.size ≤ gb632)); have n6_ := Aside0.mk ((by rw [hg]; exact Nat.ne_of_lt (blk_lt (g := gb630) (o := .cells #[.int .i64 a0_0, .int .i64 a0_1] 95 (0, 0)) (by (with_reducible repeat (first | refine blk_drewN ?_ _ | refine blk_drew ?_ | refine blk_alloc ?_ _)); exact BK630.out)) : gb630 ≠ gb632)); have n7_ := Aside0.mk ((by rw [hg]; exact Nat.ne_of_gt (blk_lt (g := gb630) (o := .cells #[.int .i64 a0_0, .int .i64 a0_1] 95 (0, 0)) (by (with_reducible repeat (first | refine blk_drewN ?_ _ | refine blk_drew ?_ | refine blk_alloc ?_ _)); exact BK630.out)) : gb632 ≠ gb630)); have n8_ := Aside0.mk ((by rw [hg]; exact Nat.ne_of_lt (blk_lt (g := gb631) (o := .cells #[.int .i64 a1_0, .int .i64 a1_1] 95 (0, 0)) (by (with_reducible repeat (first | refine blk_drewN ?_ _ | refine blk_drew ?_ | refine blk_alloc ?_ _)); exact BK631.out)) : gb631 ≠ gb632)); have n9_ := Aside0.mk ((by rw [hg]; exact Nat.ne_of_gt (blk_lt (g := gb631) (o := .cells #[.int .i64 a1_0, .int .i64 a1_1] 95 (0, 0)) (by (with_reducible repeat (first | refine blk_drewN ?_ _ | refine blk_drew ?_ | refine blk_alloc ?_ _)); exact BK631.out)) : gb632 ≠ gb631)); clear BK630; clear BK631; clear HB; have BK630 := n0_; have BK631 := n1_; have HB := n2_; have BK632 := n3_; have GW632 := n4_; have GE632 := n5_; have NB630_632 := n6_; have NB632_630 := n7_; have NB631_632 := n8_; have NB632_631 := n9_; clear n0_ n1_ n2_ n3_ n4_ n5_ n6_ n7_ n8_ n9_; clear hb hbox hg; have hnb25 := NB630_631.out; have hnc25 := NB631_630.out; have hnb26 := NB630_632.out; have hnc26 := NB632_630.out; have hcz27_0 : w24.cell? ⟨gb630, 0, none⟩ = some (.int .i64 a0_0) := (blk_cell BK630.out 0).trans rfl; have hcz27_1 : w24.cell? ⟨gb630, 1, none⟩ = some (.int .i64 a0_1) := (blk_cell BK630.out 1).trans rfl; have hfz27_0 := blk_frozen BK630.out 0; have hfz27_1 := blk_frozen BK630.out 1) | ((with_reducible refine gate_callee (f := 62) rfl ?_); refine goesL_ (some 7) rfl rfl Try.func62 (by kernel_rfl) rfl #[.agg #[.int .i64 a0_0, .int .i64 a0_1]] rfl (by (try simp only [List.map_toArray, List.map_cons, List.map_nil]); first | done | rfl | (simp only [List.length_drop, List.length_take]; rfl)) ?_; (with_reducible refine (impl_IsRatio.calls k a0_0 a0_1 true _ A3.out).mono ?_); rintro e w28 ⟨rfl, hb⟩; refine ⟨_, rfl, ?_⟩; have n0_ := Aside0.mk (blk_below (g := gb630) (o := .cells #[.int .i64 a0_0, .int .i64 a0_1] 95 (0, 0)) (by (with_reducible repeat (first | refine blk_drewN ?_ _ | refine blk_drew ?_ | refine blk_alloc ?_ _)); exact BK630.out) hb); have n1_ := Aside0.mk (blk_below (g := gb631) (o := .cells #[.int .i64 a1_0, .int .i64 a1_1] 95 (0, 0)) (by (with_reducible repeat (first | refine blk_drewN ?_ _ | refine blk_drew ?_ | refine blk_alloc ?_ _)); exact BK631.out) hb); have n2_ := Aside0.mk (blk_below (g := gb632) (o := .cells #[.int .i64 0, .int .i64 0] 95 (0, 0)) (by (with_reducible repeat (first | refine blk_drewN ?_ _ | refine blk_drew ?_ | refine blk_alloc ?_ _)); exact BK632.out) hb); have n3_ := Aside0.mk (below_step (by repeat (first | (with_reducible first | exact HB.out | apply below_alloc | apply pw_below_drewN | apply below_drew1 | refine below_set ?_ GE630.out | refine below_set ?_ GE631.out | refine below_set ?_ GE632.out) | exact HB.out)) hb); clear BK630; clear BK631; clear BK632; clear HB; have BK630 := n0_; have BK631 := n1_; have BK632 := n2_; have HB := n3_; clear n0_ n1_ n2_ n3_; (try clear hb); (try clear hb2); (try clear hk); (try clear hi); have hnb29 := NB631_632.out; have hnc29 := NB632_631.out; have hcz30_0 : w28.cell? ⟨gb631, 0, none⟩ = some (.int .i64 a1_0) := (blk_cell BK631.out 0).trans rfl; have hcz30_1 : w28.cell? ⟨gb631, 1, none⟩ = some (.int .i64 a1_1) := (blk_cell BK631.out 1).trans rfl; have hfz30_0 := blk_frozen BK631.out 0; have hfz30_1 := blk_frozen BK631.out 1) | (go_at_call 62; (with_reducible refine (impl_IsRatio.calls k a1_0 a1_1 false _ A5.out).mono ?_); rintro e w31 ⟨rfl, hb⟩; have n0_ := Aside0.mk (blk_below (g := gb630) (o := .cells #[.int .i64 a0_0, .int .i64 a0_1] 95 (0, 0)) (by (with_reducible repeat (first | refine blk_drewN ?_ _ | refine blk_drew ?_ | refine blk_alloc ?_ _)); exact BK630.out) hb); have n1_ := Aside0.mk (blk_below (g := gb631) (o := .cells #[.int .i64 a1_0, .int .i64 a1_1] 95 (0, 0)) (by (with_reducible repeat (first | refine blk_drewN ?_ _ | refine blk_drew ?_ | refine blk_alloc ?_ _)); exact BK631.out) hb); have n2_ := Aside0.mk (blk_below (g := gb632) (o := .cells #[.int .i64 0, .int .i64 0] 95 (0, 0)) (by (with_reducible repeat (first | refine blk_drewN ?_ _ | refine blk_drew ?_ | refine blk_alloc ?_ _)); exact BK632.out) hb); have n3_ := Aside0.mk (below_step (by repeat (first | (with_reducible first | exact HB.out | apply below_alloc | apply pw_below_drewN | apply below_drew1 | refine below_set ?_ GE630.out | refine below_set ?_ GE631.out | refine below_set ?_ GE632.out) | exact HB.out)) hb); clear BK630; clear BK631; clear BK632; clear HB; have BK630 := n0_; have BK631 := n1_; have BK632 := n2_; have HB := n3_; clear n0_ n1_ n2_ n3_; (try clear hb); (try clear hb2); (try clear hk); (try clear hi); have hcz32_0 : w31.cell? ⟨gb632, 0, none⟩ = some (.int .i64 0) := (blk_cell BK632.out 0).trans rfl; have hcz32_1 : w31.cell? ⟨gb632, 1, none⟩ = some (.int .i64 0) := (blk_cell BK632.out 1).trans rfl; have hfz32_0 := blk_frozen BK632.out 0; have hfz32_1 := blk_frozen BK632.out 1))
   refine bodyPost_ret (results_ct rfl _ _ gb632 95 #[.int .i64 0, .int .i64 0] (0, 0) _ rfl (by (with_reducible repeat (first | refine blk_drewN ?_ _ | refine blk_drew ?_ | refine blk_alloc ?_ _)); refine blk_put (cs := #[.int .i64 0, .int .i64 0]) ?_ 1 _ rfl; (with_reducible repeat (first | refine blk_drewN ?_ _ | refine blk_drew ?_ | refine blk_alloc ?_ _)); refine blk_put (cs := #[.int .i64 0, .int .i64 0]) ?_ 0 _ rfl; (with_reducible repeat (first | refine blk_drewN ?_ _ | refine blk_drew ?_ | refine blk_alloc ?_ _)); exact BK632.out) Try.underlying95 rfl (by kernel_rfl)) rfl ?_
   exact ⟨by first | rfl | (simp [errW_none, errW_some] <;> rfl) | (simp [*, errW_none, errW_some] <;> rfl), by repeat (first | (with_reducible first | exact HB.out | apply below_alloc | apply pw_below_drewN | apply below_drew1 | refine below_set ?_ GE630.out | refine below_set ?_ GE631.out | refine below_set ?_ GE632.out) | exact HB.out)⟩
 ·
  replace c4 := Bool.eq_false_iff.mpr c4
  subst c4
  rw [if_neg (show ¬ (false = true) by decide)] at H
  simp only [Option.some.injEq, Prod.mk.injEq] at H
  obtain ⟨rfl, rfl, rfl⟩ := H
  go_enter Try.func120, Try.ntmps120
  go_wp2_with (first | ((with_reducible refine gate_dst (N := 2) rfl ?_); refine box_event ?hg (N := 2) ?hd (cs := #[.int .i64 a0_0, .int .i64 a0_1]) (t := 95) ?hr ?_; (case hd => rfl); (case hg => rfl); (case hr => first | (go_simp; done) | (go_simp; rfl)); intro gb630 hg w33 hbox hb; have n0_ := Aside0.mk (below_step (by repeat (first | (with_reducible first | exact HB.out | apply below_alloc | apply pw_below_drewN | apply below_drew1) | exact HB.out)) hb); have n1_ := Aside0.mk (hbox); have n2_ := Aside0.mk ((by rw [hg]; exact (below_size (by repeat (first | (with_reducible first | exact HB.out | apply below_alloc | apply pw_below_drewN | apply below_drew1) | exact HB.out))) : w.heap.size ≤ gb630)); have n3_ := Aside0.mk ((by rw [hg]; exact (below_size (by repeat (first | (with_reducible first | exact HB.out | apply below_alloc | apply pw_below_drewN | apply below_drew1) | exact HB.out))) : w.heap.size ≤ gb630)); clear HB; have HB := n0_; have BK630 := n1_; have GW630 := n2_; have GE630 := n3_; clear n0_ n1_ n2_ n3_; clear hb hbox hg) | ((with_reducible refine gate_dst (N := 3) rfl ?_); refine box_event ?hg (N := 3) ?hd (cs := #[.int .i64 a1_0, .int .i64 a1_1]) (t := 95) ?hr ?_; (case hd => rfl); (case hg => rfl); (case hr => first | (go_simp; done) | (go_simp; rfl)); intro gb631 hg w34 hbox hb; have n0_ := Aside0.mk (blk_below (g := gb630) (o := .cells #[.int .i64 a0_0, .int .i64 a0_1] 95 (0, 0)) (by (with_reducible repeat (first | refine blk_drewN ?_ _ | refine blk_drew ?_ | refine blk_alloc ?_ _)); exact BK630.out) hb); have n1_ := Aside0.mk (below_step (by repeat (first | (with_reducible first | exact HB.out | apply below_alloc | apply pw_below_drewN | apply below_drew1 | refine below_set ?_ GE630.out) | exact HB.out)) hb); have n2_ := Aside0.mk (hbox); have n3_ := Aside0.mk ((by rw [hg]; exact (below_size (by repeat (first | (with_reducible first | exact HB.out | apply below_alloc | apply pw_below_drewN | apply below_drew1 | refine below_set ?_ GE630.out) | exact HB.out))) : w.heap.size ≤ gb631)); have n4_ := Aside0.mk ((by rw [hg]; exact (below_size (by repeat (first | (with_reducible first | exact HB.out | apply below_alloc | apply pw_below_drewN | apply below_drew1 | refine below_set ?_ GE630.out) | exact HB.out))) : w.heap.size ≤ gb631)); have n5_ := Aside0.mk ((by rw [hg]; exact Nat.ne_of_lt (blk_lt (g := gb630) (o := .cells #[.int .i64 a0_0, .int .i64 a0_1] 95 (0, 0)) (by (with_reducible repeat (first | refine blk_drewN ?_ _ | refine blk_drew ?_ | refine blk_alloc ?_ _)); exact BK630.out)) : gb630 ≠ gb631)); have n6_ := Aside0.mk ((by rw [hg]; exact Nat.ne_of_gt (blk_lt (g := gb630) (o := .cells #[.int .i64 a0_0, .int .i64 a0_1] 95 (0, 0)) (by (with_reducible repeat (first | refine blk_drewN ?_ _ | refine blk_drew ?_ | refine blk_alloc ?_ _)); exact BK630.out)) : gb631 ≠ gb630)); clear BK630; clear HB; have BK630 := n0_; have HB := n1_; have BK631 := n2_; have GW631 := n3_; have GE631 := n4_; have NB630_631 := n5_; have NB631_630 := n6_; clear n0_ n1_ n2_ n3_ n4_ n5_ n6_; clear hb hbox hg) | ((with_reducible refine gate_dst (N := 4) rfl ?_); refine box_event ?hg (N := 4) ?hd (cs := #[.int .i64 0, .int .i64 0]) (t := 95) ?hr ?_; (case hd => rfl); (case hg => rfl); (case hr => first | (go_simp; done) | (go_simp; rfl)); intro gb632 hg w35 hbox hb; have n0_ := Aside0.mk (blk_below (g := gb630) (o := .cells #[.int .i64 a0_0, .int .i64 a0_1] 95 (0, 0)) (by (with_reducible repeat (first | refine blk_drewN ?_ _ | refine blk_drew ?_ | refine blk_alloc ?_ _)); exact BK630.out) hb); have n1_ := Aside0.mk (blk_below (g := gb631) (o := .cells #[.int .i64 a1_0, .int .i64 a1_1] 95 (0, 0)) (by (with_reducible repeat (first | refine blk_drewN ?_ _ | refine blk_drew ?_ | refine blk_alloc ?_ _)); exact BK631.out) hb); have n2_ := Aside0.mk (below_step (by repeat (first | (with_reducible first | exact HB.out | apply below_alloc | apply pw_below_drewN | apply below_drew1 | refine below_set ?_ GE630.out | refine below_set ?_ GE631.out) | exact HB.out)) hb); have n3_ := Aside0.mk (hbox); have n4_ := Aside0.mk ((by rw [hg]; exact (below_size (by repeat (first | (with_reducible first | exact HB.out | apply below_alloc | apply pw_below_drewN | apply below_drew1 | refine below_set ?_ GE630.out | refine below_set ?_ GE631.out) | exact HB.out))) : w.heap.size ≤ gb632)); have n5_ := Aside0.mk ((by rw [hg]; exact (below_size (by repeat (first | (with_reducible first | exact HB.out | apply below_alloc | apply pw_below_drewN | apply below_drew1 | refine below_set ?_ GE630.out | refine below_set ?_ GE631.out) | exact HB.out))) : w.heap.size ≤ gb632)); have n6_ := Aside0.mk ((by rw [hg]; exact Nat.ne_of_lt (blk_lt (g := gb630) (o := .cells #[.int .i64 a0_0, .int .i64 a0_1] 95 (0, 0)) (by (with_reducible repeat (first | refine blk_drewN ?_ _ | refine blk_drew ?_ | refine blk_alloc ?_ _)); exact BK630.out)) : gb630 ≠ gb632)); have n7_ := Aside0.mk ((by rw [hg]; exact Nat.ne_of_gt (blk_lt (g := gb630) (o := .cells #[.int .i64 a0_0, .int .i64 a0_1] 95 (0, 0)) (by (with_reducible repeat (first | refine blk_drewN ?_ _ | refine blk_drew ?_ | refine blk_alloc ?_ _)); exact BK630.out)) : gb632 ≠ gb630)); have n8_ := Aside0.mk ((by rw [hg]; exact Nat.ne_of_lt (blk_lt (g := gb631) (o := .cells #[.int .i64 a1_0, .int .i64 a1_1] 95 (0, 0)) (by (with_reducible repeat (first | refine blk_drewN ?_ _ | refine blk_drew ?_ | refine blk_alloc ?_ _)); exact BK631.out)) : gb631 ≠ gb632)); have n9_ := Aside0.mk ((by rw [hg]; exact Nat.ne_of_gt (blk_lt (g := gb631) (o := .cells #[.int .i64 a1_0, .int .i64 a1_1] 95 (0, 0)) (by (with_reducible repeat (first | refine blk_drewN ?_ _ | refine blk_drew ?_ | refine blk_alloc ?_ _)); exact BK631.out)) : gb632 ≠ gb631)); clear BK630; clear BK631; clear HB; have BK630 := n0_; have BK631 := n1_; have HB := n2_; have BK632 := n3_; have GW632 := n4_; have GE632 := n5_; have NB630_632 := n6_; have NB632_630 := n7_; have NB631_632 := n8_; have NB632_631 := n9_; clear n0_ n1_ n2_ n3_ n4_ n5_ n6_ n7_ n8_ n9_; clear hb hbox hg; have hnb36 := NB630_631.out; have hnc36 := NB631_630.out; have hnb37 := NB630_632.out; have hnc37 := NB632_630.out; have hcz38_0 : w35.cell? ⟨gb630, 0, none⟩ = some (.int .i64 a0_0) := (blk_cell BK630.out 0).trans rfl; have hcz38_1 : w35.cell? ⟨gb630, 1, none⟩ = some (.int .i64 a0_1) := (blk_cell BK630.out 1).trans rfl; have hfz38_0 := blk_frozen BK630.out 0; have hfz38_1 := blk_frozen BK630.out 1) | ((with_reducible refine gate_callee (f := 62) rfl ?_); refine goesL_ (some 7) rfl rfl Try.func62 (by kernel_rfl) rfl #[.agg #[.int .i64 a0_0, .int .i64 a0_1]] rfl (by (try simp only [List.map_toArray, List.map_cons, List.map_nil]); first | done | rfl | (simp only [List.length_drop, List.length_take]; rfl)) ?_; (with_reducible refine (impl_IsRatio.calls k a0_0 a0_1 false _ A3.out).mono ?_); rintro e w39 ⟨rfl, hb⟩; refine ⟨_, rfl, ?_⟩; have n0_ := Aside0.mk (blk_below (g := gb630) (o := .cells #[.int .i64 a0_0, .int .i64 a0_1] 95 (0, 0)) (by (with_reducible repeat (first | refine blk_drewN ?_ _ | refine blk_drew ?_ | refine blk_alloc ?_ _)); exact BK630.out) hb); have n1_ := Aside0.mk (blk_below (g := gb631) (o := .cells #[.int .i64 a1_0, .int .i64 a1_1] 95 (0, 0)) (by (with_reducible repeat (first | refine blk_drewN ?_ _ | refine blk_drew ?_ | refine blk_alloc ?_ _)); exact BK631.out) hb); have n2_ := Aside0.mk (blk_below (g := gb632) (o := .cells #[.int .i64 0, .int .i64 0] 95 (0, 0)) (by (with_reducible repeat (first | refine blk_drewN ?_ _ | refine blk_drew ?_ | refine blk_alloc ?_ _)); exact BK632.out) hb); have n3_ := Aside0.mk (below_step (by repeat (first | (with_reducible first | exact HB.out | apply below_alloc | apply pw_below_drewN | apply below_drew1 | refine below_set ?_ GE630.out | refine below_set ?_ GE631.out | refine below_set ?_ GE632.out) | exact HB.out)) hb); clear BK630; clear BK631; clear BK632; clear HB; have BK630 := n0_; have BK631 := n1_; have BK632 := n2_; have HB := n3_; clear n0_ n1_ n2_ n3_; (try clear hb); (try clear hb2); (try clear hk); (try clear hi); have hnb40 := NB632_631.out; have hnc40 := NB631_632.out; have hcz41_0 : w39.cell? ⟨gb632, 0, none⟩ = some (.int .i64 0) := (blk_cell BK632.out 0).trans rfl; have hcz41_1 : w39.cell? ⟨gb632, 1, none⟩ = some (.int .i64 0) := (blk_cell BK632.out 1).trans rfl; have hfz41_0 := blk_frozen BK632.out 0; have hfz41_1 := blk_frozen BK632.out 1))
  refine bodyPost_ret (results_ct rfl _ _ gb632 95 #[.int .i64 0, .int .i64 0] (0, 0) _ rfl (by (with_reducible repeat (first | refine blk_drewN ?_ _ | refine blk_drew ?_ | refine blk_alloc ?_ _)); refine blk_put (cs := #[.int .i64 0, .int .i64 0]) ?_ 1 _ rfl; (with_reducible repeat (first | refine blk_drewN ?_ _ | refine blk_drew ?_ | refine blk_alloc ?_ _)); refine blk_put (cs := #[.int .i64 0, .int .i64 0]) ?_ 0 _ rfl; (with_reducible repeat (first | refine blk_drewN ?_ _ | refine blk_drew ?_ | refine blk_alloc ?_ _)); exact BK632.out) Try.underlying95 rfl (by kernel_rfl)) rfl ?_
  exact ⟨by first | rfl | (simp [errW_none, errW_some] <;> rfl) | (simp [*, errW_none, errW_some] <;> rfl), by repeat (first | (with_reducible first | exact HB.out | apply below_alloc | apply pw_below_drewN | apply below_drew1 | refine below_set ?_ GE630.out | refine below_set ?_ GE631.out | refine below_set ?_ GE632.out) | exact HB.out)⟩
end Go.Proofs.Ytbhlmeghbfmgiaa.F
