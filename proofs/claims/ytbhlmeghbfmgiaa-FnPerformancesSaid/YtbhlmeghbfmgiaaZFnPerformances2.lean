/- FnPerformances, part 2 of 7: texts of the claim, joined into one file. -/
import Derived.Test.YtbhlmeghbfmgiaaZFnPerformances1
import Derived.Test.YtbhlmeghbfmgiaaProg
import Derived.Below
import Derived.Deep.Draws
import Derived.Deep.AppendLies
import Derived.Maps.AppendAt
import Derived.OwnWalk
import Derived.Laws.BytesArg
import Derived.Laws.MakeOwn
import Derived.Laws.OwnMore
import Derived.Deep.OwnRows
import Derived.Tactics
import Derived.Lib.ConvBytes
import Derived.Laws.Slices
import Derived.WalkKit
import Derived.KernelRfl
import Derived.RowKit3
import Derived.Deep.LoopGhost
import Derived.Deep.QuietTactic
import Derived.BigQuiet
import Derived.WideLaws
import Derived.Deep.DeepCutAuto
import Derived.Deep.CutBlock
import Derived.Deep.RegionHeld3
import Derived.Laws.Rows
import Derived.Lib.AppendStr
import Derived.ArgAppend
import Derived.Laws.IdiomCopy
import Derived.OrdersHeld
import Derived.Laws.BitsLemmas
import Derived.RowKit

namespace Go.Proofs.Ytbhlmeghbfmgiaa.F
open Go.RowKit Go.Proofs.YtbhlmeghbfmgiaaW.PrintWords Go.Proofs.YtbhlmeghbfmgiaaW.PrintLast Go.Proofs.YtbhlmeghbfmgiaaW.PrintMore
attribute [local go_sem] max2_int min2_int max_two min_two max_three min_three max_four min_four
set_option linter.unusedVariables false
set_option linter.unusedSimpArgs false
def errW : Option Int → Value
 | none => .nilIface
 | some c => .iface 0 (.int .i64 c)
theorem errW_none : errW none = .nilIface := rfl
theorem errW_some (c : Int) : errW (some c) = .iface 0 (.int .i64 c) := rfl
theorem info3 : (Try.prog.info? 3).map (fun i => (i.zero, i.size, i.bytes)) = some (some (.int .i64 0), 1, 8) := by kernel_rfl
theorem info26 : (Try.prog.info? 26).map (fun i => (i.zero, i.size, i.bytes)) = some (some (.agg #[(.int .i64 0), (.int .i64 0), (.int .i64 0), (.int .i64 0)]), 4, 32) := by kernel_rfl
theorem info49 : (Try.prog.info? 49).map (fun i => (i.zero, i.size, i.bytes)) = some (some (.agg #[(.int .i64 0), (.int .i64 0)]), 2, 16) := by kernel_rfl
theorem info151 : (Try.prog.info? 151).map (fun i => (i.zero, i.size, i.bytes)) = some (some (.agg #[(.int .i64 0), (.int .i64 0)]), 2, 16) := by kernel_rfl
structure S26 where
 f0 : Int
 f1 : Int
 f2 : Int
 f3 : Int
def z26 : S26 := ⟨(0 : Int), (0 : Int), (0 : Int), (0 : Int)⟩
def k26 : Kd S26 := Kd.iso (Kd.pair (Kd.int .i64) (Kd.pair (Kd.int .i64) (Kd.pair (Kd.int .i64) (Kd.int .i64)))) (fun x : S26 => (x.f0, x.f1, x.f2, x.f3))
theorem k26_open {w : World} {x : S26} {cs : List Value} (h : k26.K w x cs) : cs = [.int .i64 x.f0, .int .i64 x.f1, .int .i64 x.f2, .int .i64 x.f3] := by
 obtain ⟨_, _, rfl, rfl, ⟨_, _, rfl, rfl, ⟨_, _, rfl, rfl, rfl⟩⟩⟩ := h
 exact rfl
theorem k26_openM {w : World} {base : Nat} {ok : Nat → Prop} {x : S26} {cs : List Value} (h : k26.M w base ok x cs) : cs = [.int .i64 x.f0, .int .i64 x.f1, .int .i64 x.f2, .int .i64 x.f3] := by
 obtain ⟨_, _, rfl, rfl, ⟨_, _, rfl, rfl, ⟨_, _, rfl, rfl, rfl⟩⟩⟩ := h
 exact rfl
theorem k26_mkM (w : World) (base : Nat) (ok : Nat → Prop) (x : S26)  : k26.M w base ok x [.int .i64 x.f0, .int .i64 x.f1, .int .i64 x.f2, .int .i64 x.f3] := ⟨[.int .i64 x.f0], [.int .i64 x.f1, .int .i64 x.f2, .int .i64 x.f3], rfl, rfl, ⟨[.int .i64 x.f1], [.int .i64 x.f2, .int .i64 x.f3], rfl, rfl, ⟨[.int .i64 x.f2], [.int .i64 x.f3], rfl, rfl, rfl⟩⟩⟩
def rd_T26 (xs : List S26) (i : Int) : S26 := xs.getD i.toNat z26
theorem at_T26 {w : World} {A : Option Addr} {n : Nat} {xs : List S26} (h : Kd.C k26 w A n xs) (i : Int) (h0 : 0 ≤ i) (h1 : i < n) : ∃ ad , A = some ad ∧ w.cell? (ad.add (i.toNat * 4)) = some (.int .i64 (rd_T26 xs i).f0) ∧ w.cell? ⟨(ad.add (i.toNat * 4)).block, (ad.add (i.toNat * 4)).off + 1, none⟩ = some (.int .i64 (rd_T26 xs i).f1) ∧ w.cell? ⟨(ad.add (i.toNat * 4)).block, (ad.add (i.toNat * 4)).off + 2, none⟩ = some (.int .i64 (rd_T26 xs i).f2) ∧ w.cell? ⟨(ad.add (i.toNat * 4)).block, (ad.add (i.toNat * 4)).off + 3, none⟩ = some (.int .i64 (rd_T26 xs i).f3) := by
 obtain ⟨ad, c, e, _, hK, hc0⟩ := Kd.C_get h z26 i h0 h1
 have hc : ∀ j u, c[j]? = some u → w.cell? (ad.add (i.toNat * 4 + j)) = some u := hc0
 obtain rfl := k26_open hK
 exact ⟨ad, e, hc 0 _ rfl, by rw [← add_field _ _ 1 (by omega)]; exact hc 1 _ rfl, by rw [← add_field _ _ 2 (by omega)]; exact hc 2 _ rfl, by rw [← add_field _ _ 3 (by omega)]; exact hc 3 _ rfl⟩
structure S151 where
 f0 : Int
 f1 : Int
def z151 : S151 := ⟨(0 : Int), (0 : Int)⟩
def k151 : Kd S151 := Kd.iso (Kd.pair (Kd.int .i64) (Kd.int .i64)) (fun x : S151 => (x.f0, x.f1))
theorem k151_open {w : World} {x : S151} {cs : List Value} (h : k151.K w x cs) : cs = [.int .i64 x.f0, .int .i64 x.f1] := by
 obtain ⟨_, _, rfl, rfl, rfl⟩ := h
 exact rfl
theorem k151_openM {w : World} {base : Nat} {ok : Nat → Prop} {x : S151} {cs : List Value} (h : k151.M w base ok x cs) : cs = [.int .i64 x.f0, .int .i64 x.f1] := by
 obtain ⟨_, _, rfl, rfl, rfl⟩ := h
 exact rfl
theorem k151_mkM (w : World) (base : Nat) (ok : Nat → Prop) (x : S151)  : k151.M w base ok x [.int .i64 x.f0, .int .i64 x.f1] := ⟨[.int .i64 x.f0], [.int .i64 x.f1], rfl, rfl, rfl⟩
def rd_T151 (xs : List S151) (i : Int) : S151 := xs.getD i.toNat z151
theorem at_T151 {w : World} {A : Option Addr} {n : Nat} {xs : List S151} (h : Kd.C k151 w A n xs) (i : Int) (h0 : 0 ≤ i) (h1 : i < n) : ∃ ad , A = some ad ∧ w.cell? (ad.add (i.toNat * 2)) = some (.int .i64 (rd_T151 xs i).f0) ∧ w.cell? ⟨(ad.add (i.toNat * 2)).block, (ad.add (i.toNat * 2)).off + 1, none⟩ = some (.int .i64 (rd_T151 xs i).f1) := by
 obtain ⟨ad, c, e, _, hK, hc0⟩ := Kd.C_get h z151 i h0 h1
 have hc : ∀ j u, c[j]? = some u → w.cell? (ad.add (i.toNat * 2 + j)) = some u := hc0
 obtain rfl := k151_open hK
 exact ⟨ad, e, hc 0 _ rfl, by rw [← add_field _ _ 1 (by omega)]; exact hc 1 _ rfl⟩
structure S49 where
 f0 : Int
 f1 : Int
def z49 : S49 := ⟨(0 : Int), (0 : Int)⟩
def k49 : Kd S49 := Kd.iso (Kd.pair (Kd.int .i64) (Kd.int .i64)) (fun x : S49 => (x.f0, x.f1))
theorem k49_open {w : World} {x : S49} {cs : List Value} (h : k49.K w x cs) : cs = [.int .i64 x.f0, .int .i64 x.f1] := by
 obtain ⟨_, _, rfl, rfl, rfl⟩ := h
 exact rfl
theorem k49_openM {w : World} {base : Nat} {ok : Nat → Prop} {x : S49} {cs : List Value} (h : k49.M w base ok x cs) : cs = [.int .i64 x.f0, .int .i64 x.f1] := by
 obtain ⟨_, _, rfl, rfl, rfl⟩ := h
 exact rfl
theorem k49_mkM (w : World) (base : Nat) (ok : Nat → Prop) (x : S49)  : k49.M w base ok x [.int .i64 x.f0, .int .i64 x.f1] := ⟨[.int .i64 x.f0], [.int .i64 x.f1], rfl, rfl, rfl⟩
def rd_T49 (xs : List S49) (i : Int) : S49 := xs.getD i.toNat z49
theorem at_T49 {w : World} {A : Option Addr} {n : Nat} {xs : List S49} (h : Kd.C k49 w A n xs) (i : Int) (h0 : 0 ≤ i) (h1 : i < n) : ∃ ad , A = some ad ∧ w.cell? (ad.add (i.toNat * 2)) = some (.int .i64 (rd_T49 xs i).f0) ∧ w.cell? ⟨(ad.add (i.toNat * 2)).block, (ad.add (i.toNat * 2)).off + 1, none⟩ = some (.int .i64 (rd_T49 xs i).f1) := by
 obtain ⟨ad, c, e, _, hK, hc0⟩ := Kd.C_get h z49 i h0 h1
 have hc : ∀ j u, c[j]? = some u → w.cell? (ad.add (i.toNat * 2 + j)) = some u := hc0
 obtain rfl := k49_open hK
 exact ⟨ad, e, hc 0 _ rfl, by rw [← add_field _ _ 1 (by omega)]; exact hc 1 _ rfl⟩
structure S63 where
 f0 : Int
 f1 : Int
 f2 : Int
structure S86 where
 f0 : Int
 f1 : Int
 f2 : Bool
structure S111 where
 f0 : Int
 f1 : Int
 f2 : Int
structure BelowW (w : World) where
 w2 : World
 h : Below w.heap.size w w2
instance (w : World) : Inhabited (BelowW w) := ⟨⟨w, Below.refl _ w⟩⟩
theorem BelowW.at {w : World} {a : Addr} {v : Value} (hq : w.cell? a = some v) (p : BelowW w) : p.w2.cell? a = some v := (p.h.cell (World.block_lt_of_cell? w _ hq)).trans hq
theorem BelowW.step {w : World} (p : BelowW w) {w1 : World} (hb : Below p.w2.heap.size p.w2 w1) : ∃ q : BelowW w, w1 = q.w2 := ⟨⟨w1, below_step p.h hb⟩, rfl⟩
theorem BelowW.drawn {w : World} (p : BelowW w) {w1 : World} (hb : Drawn0 p.w2 w1) : ∃ q : BelowW w, w1 = q.w2 := p.step hb.below
theorem BelowW.quiet {P : Program} {ops : Array Oper} {C : World → Prop} {Q Q' : Act → Prop} (hQ : ∀ a, Q a → Q' a) : ∀ (l : List Oper) (a : Act), wpQuiet P ops C Q l a → wpQuiet P ops C Q' l a
 | [], a, h => hQ a h
 | o :: l, a, h => by
  unfold wpQuiet at h ⊢
  split
  ·
   rename_i hw
   rw [if_pos hw] at h
   exact Oper.quiet_mono (BelowW.quiet hQ l) h
  ·
   rename_i hw
   rw [if_neg hw] at h
   exact BelowW.quiet hQ l _ h
theorem BelowW.region {P : Program} {id : Nat} {Q : Exit → Act → World → Prop} {a : Act} {w : World} {l : List Oper} (hm : P.follows .mixedOrders = true) (hB : Region.lexB .any l.toArray = true)
  (h : wpQuiet P l.toArray (fun w2 => ∃ p : BelowW w.drew, w2 = p.w2) (fun a' => ∀ w2, Below w.drew.heap.size w.drew w2 → Q .normal a' w2) l a) : (Code.region id l.toArray true).wp P Q a w :=
 wp_region_quiet (C := fun w2 => ∃ p : BelowW w.drew, w2 = p.w2) hm hB ⟨⟨w.drew, Below.refl _ _⟩, rfl⟩ (BelowW.quiet (fun a h w2 hw => by obtain ⟨p, rfl⟩ := hw; exact h _ p.h) _ _ (by simpa using h))
structure Fr (w W : World) (L : List (Nat × Obj)) : Prop where
 below : Below w.heap.size w W
 own : ∀ p ∈ L, w.heap.size ≤ p.1 ∧ W.heap[p.1]? = some p.2
 ne : L.Pairwise (fun p q => p.1 ≠ q.1)
theorem Fr.of {w W : World} (h : Below w.heap.size w W) : Fr w W [] := ⟨h, by simp, .nil⟩
theorem Fr.get {w W : World} {L : List (Nat × Obj)} (h : Fr w W L) {i g : Nat} {o : Obj} (hi : L[i]? = some (g, o)) : W.heap[g]? = some o := (h.own _ (List.mem_of_getElem? hi)).2
theorem Fr.ge {w W : World} {L : List (Nat × Obj)} (h : Fr w W L) {i g : Nat} {o : Obj} (hi : L[i]? = some (g, o)) : w.heap.size ≤ g := (h.own _ (List.mem_of_getElem? hi)).1
theorem Fr.step {w W W' : World} {L : List (Nat × Obj)} (h : Fr w W L) (hb : Below W.heap.size W W') : Fr w W' L := ⟨below_step h.below hb, fun p hp => ⟨(h.own p hp).1, blk_below (h.own p hp).2 hb⟩, h.ne⟩
theorem Fr.drew {w W : World} {L : List (Nat × Obj)} (h : Fr w W L) : Fr w W.drew L := h.step (below_drew1 (Below.refl _ W))
theorem Fr.drawn {w W W' : World} {L : List (Nat × Obj)} (h : Fr w W L) (hb : Drawn0 W W') : Fr w W' L := h.step hb.below
theorem Fr.push {w W W' : World} {L : List (Nat × Obj)} (h : Fr w W L) {g : Nat} {o : Obj} (hg : g = W.heap.size) (hx : W'.heap[g]? = some o) (hb : Below W.heap.size W W') : Fr w W' (L ++ [(g, o)]) := by
 have h1 := h.step hb
 refine ⟨h1.below, fun p hp => ?_, ?_⟩
 ·
  rcases List.mem_append.1 hp with hp | hp
  ·
   exact h1.own p hp
  ·
   rw [List.mem_singleton] at hp
   subst hp
   exact ⟨by rw [hg]; exact below_size h.below, hx⟩
 ·
  rw [List.pairwise_append]
  refine ⟨h.ne, List.pairwise_singleton _ _, fun p hp q hq => ?_⟩
  rw [List.mem_singleton] at hq
  subst hq
  have := blk_lt (h.own p hp).2
  show p.1 ≠ g
  omega
theorem Fr.apart {w W : World} {L : List (Nat × Obj)} (h : Fr w W L) {i j g f : Nat} {o p : Obj} (hi : L[i]? = some (g, o)) (hj : L[j]? = some (f, p)) (hn : i ≠ j) : g ≠ f := by
 have h1 := h.ne
 rw [List.pairwise_iff_getElem] at h1
 obtain ⟨a1, a2⟩ := List.getElem?_eq_some_iff.1 hi
 obtain ⟨b1, b2⟩ := List.getElem?_eq_some_iff.1 hj
 rcases Nat.lt_or_gt_of_ne hn with hlt | hgt
 ·
  have := h1 i j a1 b1 hlt
  rw [a2, b2] at this
  exact this
 ·
  have := h1 j i b1 a1 hgt
  rw [a2, b2] at this
  exact fun e => this e.symm
theorem Fr.set1 {w W : World} {L : List (Nat × Obj)} (h : Fr w W L) {i g : Nat} {cs : Array Value} {t : TypeId} (hi : L[i]? = some (g, .cells cs t (0, 0))) (j : Nat) (v : Value) {cs' : Array Value} (hc : cs.setIfInBounds j v = cs') : Fr w (W.setCell ⟨g, j, none⟩ v) (L.set i (g, .cells cs' t (0, 0))) := by
 refine ⟨below_set h.below (h.ge hi), fun p hp => ?_, ?_⟩
 ·
  obtain ⟨q, hq, rfl⟩ := List.getElem_of_mem hp
  rw [List.getElem_set]
  rw [List.length_set] at hq
  split
  ·
   exact ⟨h.ge hi, blk_put (h.get hi) j v hc⟩
  ·
   rename_i hne
   have hm := h.own _ (List.getElem_mem hq)
   refine ⟨hm.1, (Below.heap_setCell W _ v _ ?_).trans hm.2⟩
   exact fun e => (h.apart hi (List.getElem?_eq_getElem hq) hne) e.symm
 ·
  have h1 := h.ne
  rw [List.pairwise_iff_getElem] at h1 ⊢
  obtain ⟨a1, a2⟩ := List.getElem?_eq_some_iff.1 hi
  intro x y hx hy hxy
  rw [List.length_set] at hx hy
  have := h1 x y hx hy hxy
  rw [List.getElem_set, List.getElem_set]
  split
  ·
   rename_i e
   subst e
   rw [a2] at this
   rw [if_neg (by omega)]
   exact this
  ·
   split
   ·
    rename_i e
    subst e
    rw [a2] at this
    exact this
   ·
    exact this
def put2 (W : World) (g : Nat) (x y : Value) : World := (W.setCell ⟨g, 0, none⟩ x).setCell ⟨g, 1, none⟩ y
theorem Fr.put2 {w W : World} {L : List (Nat × Obj)} (h : Fr w W L) {i g : Nat} {a b : Value} {t : TypeId} (hi : L[i]? = some (g, .cells #[a, b] t (0, 0))) (x y : Value) : Fr w (put2 W g x y) (L.set i (g, .cells #[x, y] t (0, 0))) := by
 have h1 := h.set1 hi 0 x rfl
 have hlt := (List.getElem?_eq_some_iff.1 hi).1
 have h2 := h1.set1 (i := i) (g := g) (cs := #[x, b]) (t := t) (by rw [List.getElem?_set_self hlt]; rfl) 1 y rfl
 rw [List.set_set] at h2
 exact h2
theorem Fr.take {w W : World} {L : List (Nat × Obj)} (h : Fr w W L) (n : Nat) : Fr w W (L.take n) := ⟨h.below, fun p hp => h.own p (List.mem_of_mem_take hp), h.ne.sublist (List.take_sublist n L)⟩
theorem Fr.c1 {w W : World} {L : List (Nat × Obj)} (h : Fr w W L) {i g : Nat} {a : Value} {t : TypeId} (hi : L[i]? = some (g, .cells #[a] t (0, 0))) : W.cell? ⟨g, 0, none⟩ = some a ∧ W.frozen? ⟨g, 0, none⟩ = false := ⟨(blk_cell (h.get hi) 0).trans rfl, blk_frozen (h.get hi) 0⟩
theorem Fr.c2 {w W : World} {L : List (Nat × Obj)} (h : Fr w W L) {i g : Nat} {a b : Value} {t : TypeId} (hi : L[i]? = some (g, .cells #[a, b] t (0, 0))) : W.cell? ⟨g, 0, none⟩ = some a ∧ W.cell? ⟨g, 1, none⟩ = some b ∧ W.frozen? ⟨g, 0, none⟩ = false ∧ W.frozen? ⟨g, 1, none⟩ = false :=
 ⟨(blk_cell (h.get hi) 0).trans rfl, (blk_cell (h.get hi) 1).trans rfl, blk_frozen (h.get hi) 0, blk_frozen (h.get hi) 1⟩
def put4 (W : World) (g : Nat) (x y z u : Value) : World := (((W.setCell ⟨g, 0, none⟩ x).setCell ⟨g, 1, none⟩ y).setCell ⟨g, 2, none⟩ z).setCell ⟨g, 3, none⟩ u
theorem Fr.put4 {w W : World} {L : List (Nat × Obj)} (h : Fr w W L) {i g : Nat} {a b c d : Value} {t : TypeId} (hi : L[i]? = some (g, .cells #[a, b, c, d] t (0, 0))) (x y z u : Value) : Fr w (put4 W g x y z u) (L.set i (g, .cells #[x, y, z, u] t (0, 0))) := by
 have hlt := (List.getElem?_eq_some_iff.1 hi).1
 have h1 := h.set1 hi 0 x rfl
 have h2 := h1.set1 (i := i) (g := g) (cs := #[x, b, c, d]) (t := t) (by rw [List.getElem?_set_self hlt]; rfl) 1 y rfl
 rw [List.set_set] at h2
 have h3 := h2.set1 (i := i) (g := g) (cs := #[x, y, c, d]) (t := t) (by rw [List.getElem?_set_self hlt]; rfl) 2 z rfl
 rw [List.set_set] at h3
 have h4 := h3.set1 (i := i) (g := g) (cs := #[x, y, z, d]) (t := t) (by rw [List.getElem?_set_self hlt]; rfl) 3 u rfl
 rw [List.set_set] at h4
 exact h4
theorem Fr.c4 {w W : World} {L : List (Nat × Obj)} (h : Fr w W L) {i g : Nat} {a b c d : Value} {t : TypeId} (hi : L[i]? = some (g, .cells #[a, b, c, d] t (0, 0))) : W.cell? ⟨g, 0, none⟩ = some a ∧ W.cell? ⟨g, 1, none⟩ = some b ∧ W.cell? ⟨g, 2, none⟩ = some c ∧ W.cell? ⟨g, 3, none⟩ = some d ∧ W.frozen? ⟨g, 0, none⟩ = false ∧ W.frozen? ⟨g, 1, none⟩ = false ∧ W.frozen? ⟨g, 2, none⟩ = false ∧ W.frozen? ⟨g, 3, none⟩ = false :=
 ⟨(blk_cell (h.get hi) 0).trans rfl, (blk_cell (h.get hi) 1).trans rfl, (blk_cell (h.get hi) 2).trans rfl, (blk_cell (h.get hi) 3).trans rfl, blk_frozen (h.get hi) 0, blk_frozen (h.get hi) 1, blk_frozen (h.get hi) 2, blk_frozen (h.get hi) 3⟩
end Go.Proofs.Ytbhlmeghbfmgiaa.F

namespace Go.Proofs.Ytbhlmeghbfmgiaa.F
open Go.RowKit Go.Proofs.YtbhlmeghbfmgiaaW.PrintWords Go.Proofs.YtbhlmeghbfmgiaaW.PrintLast Go.Proofs.YtbhlmeghbfmgiaaW.PrintMore
theorem sk_' : type_of% @Aside0.mk := @Aside0.mk
theorem bq_' : type_of% @World.block_lt_of_cell? := @World.block_lt_of_cell?
theorem pn_' : type_of% @pw_below_drewN := @pw_below_drewN
theorem pd_' : type_of% @below_drew1 := @below_drew1
theorem pa_' : type_of% @below_alloc := @below_alloc
theorem kn_' : type_of% @blk_drewN := @blk_drewN
theorem kd_' : type_of% @blk_drew := @blk_drew
theorem ka_' : type_of% @blk_alloc := @blk_alloc
theorem pt_' : type_of% @below_set := @below_set
theorem kc_' : type_of% @blk_cell := @blk_cell
theorem kf_' : type_of% @blk_frozen := @blk_frozen
theorem sa_' {α : Type} (l : List α) (i : Nat) (a : α) : l.toArray.setIfInBounds i a = (l.set i a).toArray := List.setIfInBounds_toArray ..
theorem sz_' {α : Type} {x : α} {xs : List α} {a : α} : (x :: xs).set 0 a = a :: xs := List.set_cons_zero
theorem sc_' {α : Type} {x : α} {xs : List α} {i : Nat} {a : α} : (x :: xs).set (i + 1) a = x :: xs.set i a := List.set_cons_succ
theorem bs_' {α β : Type} {b : β} {x : Option α} {f : α → Option β} (h : x.bind f = some b) : ∃ a, x = some a ∧ f a = some b := Option.bind_eq_some_iff.mp h
theorem od_' : type_of% @of_decide_eq_true := @of_decide_eq_true
theorem ps_' : type_of% @below_size := @below_size
theorem pp_' : type_of% @below_step := @below_step
theorem rn_' : type_of% @Kd.R_drewN := @Kd.R_drewN
theorem rd1_' : type_of% @Kd.R_drew := @Kd.R_drew
theorem ra_' : type_of% @Kd.R_alloc := @Kd.R_alloc
theorem xb_' : type_of% @Kd.R_below := @Kd.R_below
theorem xt_' : type_of% @List.length_take := @List.length_take
theorem xd_' : type_of% @List.length_drop := @List.length_drop
theorem xm_' : type_of% @List.map_toArray := @List.map_toArray
theorem xc_' : type_of% @List.map_cons := @List.map_cons
theorem xn_' : type_of% @List.map_nil := @List.map_nil
theorem xr_' : type_of% @Kd.R_reads' := @Kd.R_reads'
theorem xe_' : type_of% @Kd.C_drewN := @Kd.C_drewN
theorem xf_' : type_of% @Kd.C_drew := @Kd.C_drew
theorem xg_' : type_of% @Kd.C_alloc := @Kd.C_alloc
theorem xi_' : type_of% @Kd.R_mono := @Kd.R_mono
theorem xj_' : type_of% @gate_callee := @gate_callee
end Go.Proofs.Ytbhlmeghbfmgiaa.F

namespace Go.Proofs.Ytbhlmeghbfmgiaa.F
open Go.RowKit Go.Proofs.YtbhlmeghbfmgiaaW.PrintWords Go.Proofs.YtbhlmeghbfmgiaaW.PrintLast Go.Proofs.YtbhlmeghbfmgiaaW.PrintMore
attribute [local go_sem] max2_int min2_int max_two min_two max_three min_three max_four min_four
set_option linter.unusedVariables false
set_option linter.unusedSimpArgs false
def laws_big.f (l0 : List Int) : Option (Bool) := some (decide ((l0.length : Int) > 1048576))
set_option maxHeartbeats 8000000 in
set_option maxRecDepth 100000 in
theorem laws_big.calls (A0 : Option Addr) (c0 : Nat) (l0 : List Int) (r : Bool) (w : World) (hr0 : Kd.C (Kd.int .u8) w A0 l0.length l0) (hc0 : l0.length ≤ c0) (h : laws_big.f l0 = some r) :
  Calls Try.prog 10 #[.slice A0 l0.length c0] w fun e w' => e = .returned (.bool r) ∧ Drawn0 w w' := by
 have HR0 := sk_' hr0
 have HC0 := sk_' hc0
 clear hr0 hc0
 have H : (some (decide ((l0.length : Int) > 1048576))) = some r := h
 clear h
 obtain rfl := Option.some.inj H
 go_enter Try.func10, Try.ntmps10
 go_wp2
 go_ret
 exact ⟨by first | rfl | (simp; done) | (simp [*]; done), by repeat (first | exact Drawn0.refl _ | apply Drawn0.step)⟩
end Go.Proofs.Ytbhlmeghbfmgiaa.F

namespace Go.Proofs.Ytbhlmeghbfmgiaa.F
open Go.RowKit Go.Proofs.YtbhlmeghbfmgiaaW.PrintWords Go.Proofs.YtbhlmeghbfmgiaaW.PrintLast Go.Proofs.YtbhlmeghbfmgiaaW.PrintMore
attribute [local go_sem] max2_int min2_int max_two min_two max_three min_three max_four min_four
set_option linter.unusedVariables false
set_option linter.unusedSimpArgs false
def IsS157 (w0 W : World) (g : Nat) (f0 : List Int) (f1 : Int) (f2 : Int) : Prop := ∃ A0 c0, W.heap[g]? = some (.cells #[.slice A0 f0.length c0, .int .i64 f1, .int .i64 f2] 157 (0, 0)) ∧ w0.heap.size ≤ g ∧ Kd.C (Kd.int .u8) w0 A0 f0.length f0
theorem IsS157.grown {w0 W : World} {g : Nat} {f0 : List Int} {f1 : Int} {f2 : Int} {W1 : World} {row : Option Nat} (h : IsS157 w0 W g f0 f1 f2) (hw : W.grownBy W1 row) (hne : some g ≠ row) : IsS157 w0 W1 g f0 f1 f2 := by
 obtain ⟨A0, c0, hb, hg, hr0⟩ := h
 exact ⟨A0, c0, blk_grown hb hw hne, hg, hr0⟩
theorem IsS157.kept {w0 W : World} {g : Nat} {f0 : List Int} {f1 : Int} {f2 : Int} {W1 : World} {S : Nat → Prop} (h : IsS157 w0 W g f0 f1 f2) (hk : Kept W W1 S) (hne : ¬ S g) : IsS157 w0 W1 g f0 f1 f2 := by
 obtain ⟨A0, c0, hb, hg, hr0⟩ := h
 exact ⟨A0, c0, blk_kept hb hk hne, hg, hr0⟩
theorem IsS157.below {w0 W : World} {g : Nat} {f0 : List Int} {f1 : Int} {f2 : Int} {W1 : World} (h : IsS157 w0 W g f0 f1 f2) (hw : Below W.heap.size W W1) : IsS157 w0 W1 g f0 f1 f2 := h.grown (grown_of_below hw none) (by simp)
theorem IsS157.alloc {w0 W : World} {g : Nat} {f0 : List Int} {f1 : Int} {f2 : Int} (h : IsS157 w0 W g f0 f1 f2) (o : Obj) : IsS157 w0 (W.alloc o) g f0 f1 f2 := h.below (pa_' (Below.refl _ _) o)
theorem IsS157.drewN {w0 W : World} {g : Nat} {f0 : List Int} {f1 : Int} {f2 : Int} (h : IsS157 w0 W g f0 f1 f2) (m : Nat) : IsS157 w0 (W.drewN m) g f0 f1 f2 := h
theorem IsS157.drew {w0 W : World} {g : Nat} {f0 : List Int} {f1 : Int} {f2 : Int} (h : IsS157 w0 W g f0 f1 f2) : IsS157 w0 W.drew g f0 f1 f2 := h
theorem IsS157.at_ {w0 W : World} {g : Nat} {f0 : List Int} {f1 : Int} {f2 : Int} {w' : World} {m : Nat} (hq : W.drewN m = w') (h : IsS157 w0 W g f0 f1 f2) : IsS157 w0 w' g f0 f1 f2 := by subst hq; exact IsS157.drewN h m
theorem IsS157.apart {w0 W : World} {g : Nat} {f0 : List Int} {f1 : Int} {f2 : Int} {α : Type} {d : Kd α} {e : Nat} {base : Nat} {ok : Nat → Prop} {v : Value} {xs : List α} (h : IsS157 w0 W g f0 f1 f2) (ho : d.R e W base ok v xs) (ht : ∀ q, q ∈ e :: d.E → q ≠ 157) : d.R e W base (fun k => ok k ∧ k ≠ g) v xs := by
 obtain ⟨A0, c0, hb, hg, hr0⟩ := h
 exact Kd.R_types ho hb ht
theorem IsS157.own_ne {w0 W : World} {g : Nat} {f0 : List Int} {f1 : Int} {f2 : Int} {α : Type} {d : Kd α} {e : Nat} {base : Nat} {ok : Nat → Prop} {v : Value} {xs : List α} (h : IsS157 w0 W g f0 f1 f2) (ho : d.R e W base ok v xs) (ht : e ≠ 157) : some g ≠ v.ownBlock := by
 obtain ⟨A0, c0, hb, hg, hr0⟩ := h
 exact Kd.R_ne ho hb ht
theorem IsS157.lt {w0 W : World} {g : Nat} {f0 : List Int} {f1 : Int} {f2 : Int} (h : IsS157 w0 W g f0 f1 f2) : g < W.heap.size := by
 obtain ⟨A0, c0, hb, hg, hr0⟩ := h
 exact blk_lt hb
theorem IsS157.ge {w0 W : World} {g : Nat} {f0 : List Int} {f1 : Int} {f2 : Int} (h : IsS157 w0 W g f0 f1 f2) : w0.heap.size ≤ g := by
 obtain ⟨A0, c0, hb, hg, hr0⟩ := h
 exact hg
theorem IsS157.far {w0 W : World} {g : Nat} {f0 : List Int} {f1 : Int} {f2 : Int} {p : Addr} (h : IsS157 w0 W g f0 f1 f2) (hne : g ≠ p.block) (u : Value) : IsS157 w0 (W.setCell p u) g f0 f1 f2 := by
 obtain ⟨A0, c0, hb, hg, hr0⟩ := h
 exact ⟨A0, c0, blk_far hb hne u, hg, hr0⟩
theorem cellS157_0 {W : World} {g : Nat} {A0 : Option Addr} {c0 : Nat} {f0 : List Int} {f1 : Int} {f2 : Int} (h : W.heap[g]? = some (.cells #[.slice A0 f0.length c0, .int .i64 f1, .int .i64 f2] 157 (0, 0))) : W.cell? ⟨g, 0, none⟩ = some (.slice A0 f0.length c0) := (kc_' h 0).trans rfl
theorem cellS157_1 {W : World} {g : Nat} {A0 : Option Addr} {c0 : Nat} {f0 : List Int} {f1 : Int} {f2 : Int} (h : W.heap[g]? = some (.cells #[.slice A0 f0.length c0, .int .i64 f1, .int .i64 f2] 157 (0, 0))) : W.cell? ⟨g, 1, none⟩ = some (.int .i64 f1) := (kc_' h 1).trans rfl
theorem IsS157.set_1 {w0 W : World} {g : Nat} {f0 : List Int} {f1 : Int} {f2 : Int} (h : IsS157 w0 W g f0 f1 f2) (x : Int) : IsS157 w0 (W.setCell ⟨g, 1, none⟩ (.int .i64 x)) g f0 x f2 := by
 obtain ⟨A0, c0, hb, hg, hr0⟩ := h
 exact ⟨A0, c0, by simpa using blk_set hb 1 (.int .i64 x), hg, hr0⟩
theorem cellS157_2 {W : World} {g : Nat} {A0 : Option Addr} {c0 : Nat} {f0 : List Int} {f1 : Int} {f2 : Int} (h : W.heap[g]? = some (.cells #[.slice A0 f0.length c0, .int .i64 f1, .int .i64 f2] 157 (0, 0))) : W.cell? ⟨g, 2, none⟩ = some (.int .i64 f2) := (kc_' h 2).trans rfl
theorem IsS157.set_2 {w0 W : World} {g : Nat} {f0 : List Int} {f1 : Int} {f2 : Int} (h : IsS157 w0 W g f0 f1 f2) (x : Int) : IsS157 w0 (W.setCell ⟨g, 2, none⟩ (.int .i64 x)) g f0 f1 x := by
 obtain ⟨A0, c0, hb, hg, hr0⟩ := h
 exact ⟨A0, c0, by simpa using blk_set hb 2 (.int .i64 x), hg, hr0⟩
def spec_l1New.l0 : Nat → List Int → Int → Int → Option (List Int × Int × Int)
 | 0, _, _, _ => none
 | k + 1, x0, x3, x4 => if x4 < (x0.length : Int) then (if x4 < 4000 then (if 0 ≤ x4 then (spec_l1New.l0 k x0 (Go.bits .and .i64 (wrap64 ((wrap64 ((wrap64 (x3 * 137)) + (wrap64 (rd x0 x4)))) + 11)) 1073741823) (wrap64 (x4 + 1))) else (none)) else (some (x0, 0, x3))) else (some (x0, 0, x3))
def spec_l1New.f (k : Nat) (l0 : List Int) : Option (List Int × Int × Int) := spec_l1New.l0 k l0 (wrap64 (193017 + (l0.length : Int))) 0
set_option maxHeartbeats 8000000 in
set_option maxRecDepth 100000 in
theorem spec_l1New.calls (k : Nat) (A0 : Option Addr) (c0 : Nat) (l0 : List Int) (r1 : List Int) (r2 : Int) (r3 : Int) (w0 w : World) (hB : Below w0.heap.size w0 w) (hr0 : Kd.C (Kd.int .u8) w0 A0 l0.length l0) (hc0 : l0.length ≤ c0) (h : spec_l1New.f k l0 = some (r1, r2, r3)) :
  Calls Try.prog 74 #[.slice A0 l0.length c0] w fun e w' => ∃ g_ : Nat, e = .returned (.pointer (some ⟨g_, 0, none⟩)) ∧ IsS157 w0 w' g_ r1 r2 r3 ∧ Below w0.heap.size w0 w' ∧ Below w.heap.size w w' := by
 have hu157 := Try.underlying157
 have HR0 := sk_' hr0
 have HC0 := sk_' hc0
 clear hr0 hc0
 have HBW := sk_' (Below.refl w.heap.size w)
 have HW0 := sk_' hB.size
 have HB := sk_' hB
 clear hB
 have H : (spec_l1New.l0 k l0 (wrap64 (193017 + (l0.length : Int))) 0) = some (r1, r2, r3) := h
 clear h
 have H' := sk_' H
 clear H
 go_enter Try.func74, Try.ntmps74
 go_wp2
 go_loopg [3, 4] k (fun kq v3 v4 w' => ∃ (x3_1 : Int) (x4_1 : Int), v3 = .int .i64 x3_1 ∧ v4 = .int .i64 x4_1 ∧ Aside0 (spec_l1New.l0 kq l0 x3_1 x4_1 = some (r1, r2, r3)) ∧ Aside0 (kq ≤ k) ∧ Aside0 (Below w0.heap.size w0 w') ∧ Aside0 (Below w.heap.size w w'))
 case atStart => exact ⟨(wrap64 (193017 + (l0.length : Int))), (0), (by first | rfl | (simp; done) | (simp [*]; done)), (by first | rfl | (simp; done) | (simp [*]; done)), H', ⟨Nat.le_refl _⟩, ⟨by repeat (first | (with_reducible first | exact HB.out | apply pa_' | apply pn_' | apply pd_') | exact HB.out)⟩, ⟨by repeat (first | (with_reducible first | exact HBW.out | apply pa_' | apply pn_' | apply pd_') | exact HBW.out)⟩⟩
 case round =>
  clear H'
  obtain ⟨x3_1, x4_1, rfl, rfl, HA, HK1, HB, HBW1⟩ := hrel
  clear HBW
  have HBW := HBW1
  clear HBW1
  cases gk with
  | zero => exact absurd HA.out (by simp [spec_l1New.l0])
  | succ k1 =>
   have H := HA.out
   clear HA
   simp only [spec_l1New.l0] at H
   by_cases c2 : x4_1 < (l0.length : Int)
   ·
    rw [if_pos c2] at H
    have c2b0 : decide (x4_1 < (l0.length : Int)) = true := decide_eq_true c2
    clear c2
    by_cases c3 : x4_1 < 4000
    ·
     rw [if_pos c3] at H
     have c3b0 : decide (x4_1 < 4000) = true := decide_eq_true c3
     clear c3
     by_cases c4 : 0 ≤ x4_1
     ·
      rw [if_pos c4] at H
      have c4b0 : decide (0 ≤ x4_1) = true := decide_eq_true c4
      clear c4
      have H' := sk_' H
      clear H
      have p101 : 0 ≤ (x4_1 : Int) := od_' (by first | (with_reducible assumption) | assumption)
      have q101 : x4_1 < (l0.length : Int) := od_' (by first | (with_reducible assumption) | assumption)
      obtain ⟨ad101, e101, hx101_0⟩ := Kd.at_int HR0.out x4_1 p101 q101
      cases e101
      replace hx101_0 := pw_cell_below HB.out hx101_0
      replace p101 := eq_true p101
      replace q101 := eq_true q101
      go_wp2
      go_roundg k1
      case measure => have := HK1.out; omega
      case rel => exact ⟨(Go.bits .and .i64 (wrap64 ((wrap64 ((wrap64 (x3_1 * 137)) + (wrap64 (rd l0 x4_1)))) + 11)) 1073741823), (wrap64 (x4_1 + 1)), (by first | rfl | (simp; done) | (simp [*]; done)), (by first | rfl | (simp; done) | (simp [*]; done)), H', ⟨by have := HK1.out; omega⟩, ⟨by repeat (first | (with_reducible first | exact HB.out | apply pa_' | apply pn_' | apply pd_') | exact HB.out)⟩, ⟨by repeat (first | (with_reducible first | exact HBW.out | apply pa_' | apply pn_' | apply pd_') | exact HBW.out)⟩⟩
     rw [if_neg c4] at H
     exact absurd H (by simp)
    rw [if_neg c3] at H
    have c3b0 : decide (x4_1 < 4000) = false := decide_eq_false c3
    clear c3
    simp only [Option.some.injEq, Prod.mk.injEq] at H
    obtain ⟨rfl, rfl, rfl⟩ := H
    go_wp2_with (first | ((with_reducible refine gate_dst (N := 31) rfl ?_); refine box_event ?hg (N := 31) ?hd (cs := #[.slice A0 l0.length c0, .int .i64 0, .int .i64 x3_1]) (t := 157) ?hr ?_; (case hd => rfl); (case hg => rfl); (case hr => first | (go_simp; done) | (go_simp; rfl)); intro gb102 hg w5 hbox hb; have n0_ := sk_' (pp_' HBW.out hb); have n1_ := sk_' (pp_' (by repeat (first | (with_reducible first | exact HB.out | apply pa_' | apply pn_' | apply pd_') | exact HB.out)) hb); have n2_ := sk_' (hbox); have n3_ := sk_' ((by rw [hg]; exact (ps_' (by repeat (first | (with_reducible first | exact HBW.out | apply pa_' | apply pn_' | apply pd_') | exact HBW.out))) : w.heap.size ≤ gb102)); have n4_ := sk_' ((Nat.le_trans HW0.out (by rw [hg]; exact (ps_' (by repeat (first | (with_reducible first | exact HBW.out | apply pa_' | apply pn_' | apply pd_') | exact HBW.out))) : w.heap.size ≤ gb102) : w0.heap.size ≤ gb102)); clear HBW; clear HB; have HBW := n0_; have HB := n1_; have BK102 := n2_; have GW102 := n3_; have GE102 := n4_; clear n0_ n1_ n2_ n3_ n4_; clear hb hbox hg))
    go_ret
    exact ⟨_, rfl, (show IsS157 w0 _ gb102 l0 0 x3_1 from ⟨_, _, by (with_reducible repeat (first | refine kn_' ?_ _ | refine kd_' ?_ | refine ka_' ?_ _)); exact BK102.out, GE102.out, HR0.out⟩), by repeat (first | (with_reducible first | exact HB.out | apply pa_' | apply pn_' | apply pd_' | refine pt_' ?_ GE102.out) | exact HB.out), by repeat (first | (with_reducible first | exact HBW.out | apply pa_' | apply pn_' | apply pd_' | refine pt_' ?_ GW102.out) | exact HBW.out)⟩
   rw [if_neg c2] at H
   have c2b0 : decide (x4_1 < (l0.length : Int)) = false := decide_eq_false c2
   clear c2
   simp only [Option.some.injEq, Prod.mk.injEq] at H
   obtain ⟨rfl, rfl, rfl⟩ := H
   go_wp2_with (first | ((with_reducible refine gate_dst (N := 31) rfl ?_); refine box_event ?hg (N := 31) ?hd (cs := #[.slice A0 l0.length c0, .int .i64 0, .int .i64 x3_1]) (t := 157) ?hr ?_; (case hd => rfl); (case hg => rfl); (case hr => first | (go_simp; done) | (go_simp; rfl)); intro gb103 hg w6 hbox hb; have n0_ := sk_' (pp_' HBW.out hb); have n1_ := sk_' (pp_' (by repeat (first | (with_reducible first | exact HB.out | apply pa_' | apply pn_' | apply pd_') | exact HB.out)) hb); have n2_ := sk_' (hbox); have n3_ := sk_' ((by rw [hg]; exact (ps_' (by repeat (first | (with_reducible first | exact HBW.out | apply pa_' | apply pn_' | apply pd_') | exact HBW.out))) : w.heap.size ≤ gb103)); have n4_ := sk_' ((Nat.le_trans HW0.out (by rw [hg]; exact (ps_' (by repeat (first | (with_reducible first | exact HBW.out | apply pa_' | apply pn_' | apply pd_') | exact HBW.out))) : w.heap.size ≤ gb103) : w0.heap.size ≤ gb103)); clear HBW; clear HB; have HBW := n0_; have HB := n1_; have BK103 := n2_; have GW103 := n3_; have GE103 := n4_; clear n0_ n1_ n2_ n3_ n4_; clear hb hbox hg))
   go_ret
   exact ⟨_, rfl, (show IsS157 w0 _ gb103 l0 0 x3_1 from ⟨_, _, by (with_reducible repeat (first | refine kn_' ?_ _ | refine kd_' ?_ | refine ka_' ?_ _)); exact BK103.out, GE103.out, HR0.out⟩), by repeat (first | (with_reducible first | exact HB.out | apply pa_' | apply pn_' | apply pd_' | refine pt_' ?_ GE103.out) | exact HB.out), by repeat (first | (with_reducible first | exact HBW.out | apply pa_' | apply pn_' | apply pd_' | refine pt_' ?_ GW103.out) | exact HBW.out)⟩
end Go.Proofs.Ytbhlmeghbfmgiaa.F

namespace Go.Proofs.Ytbhlmeghbfmgiaa.F
open Go.RowKit Go.Proofs.YtbhlmeghbfmgiaaW.PrintWords Go.Proofs.YtbhlmeghbfmgiaaW.PrintLast Go.Proofs.YtbhlmeghbfmgiaaW.PrintMore
attribute [local go_sem] max2_int min2_int max_two min_two max_three min_three max_four min_four
set_option linter.unusedVariables false
set_option linter.unusedSimpArgs false
def spec_l1Byte.f (s0_0 : List Int) (s0_1 : Int) (s0_2 : Int) : Option (Int × Int × Int) := if s0_1 < (s0_0.length : Int) then (if 0 ≤ s0_1 then (some (Go.bits .and .i64 (wrap64 ((Go.bits .and .i64 (Go.bits .xor .i64 ((wrap64 ((wrap64 (s0_2 * 6364136223846793005)) + 1442695040888963407)) / 8589934592) ((wrap64 ((wrap64 (s0_2 * 6364136223846793005)) + 1442695040888963407)) / 140737488355328)) 255) + (wrap64 (rd s0_0 s0_1)))) 255, wrap64 (s0_1 + 1), wrap64 ((wrap64 (s0_2 * 6364136223846793005)) + 1442695040888963407))) else (none)) else (some (Go.bits .and .i64 (Go.bits .xor .i64 ((wrap64 ((wrap64 (s0_2 * 6364136223846793005)) + 1442695040888963407)) / 8589934592) ((wrap64 ((wrap64 (s0_2 * 6364136223846793005)) + 1442695040888963407)) / 140737488355328)) 255, s0_1, wrap64 ((wrap64 (s0_2 * 6364136223846793005)) + 1442695040888963407)))
set_option maxHeartbeats 8000000 in
set_option maxRecDepth 100000 in
theorem spec_l1Byte.calls (g : Nat) (s0_0 : List Int) (s0_1 : Int) (s0_2 : Int) (r1 : Int) (r2 : Int) (r3 : Int) (w0 w : World) (hI : IsS157 w0 w g s0_0 s0_1 s0_2) (hB : Below w0.heap.size w0 w) (h : spec_l1Byte.f s0_0 s0_1 s0_2 = some (r1, r2, r3)) :
  Calls Try.prog 136 #[.pointer (some ⟨g, 0, none⟩)] w fun e w' => e = .returned (.int .i64 r1) ∧ IsS157 w0 w' g s0_0 r2 r3 ∧ Below w0.heap.size w0 w' ∧ KeepBut w w' g none := by
 have HI0 := sk_' hI
 have HK := sk_' (KeepBut.refl w g none)
 have HL := sk_' hB.size
 clear hI
 have HW0 := sk_' hB.size
 have HB := sk_' hB
 clear hB
 have H : (if s0_1 < (s0_0.length : Int) then (if 0 ≤ s0_1 then (some (Go.bits .and .i64 (wrap64 ((Go.bits .and .i64 (Go.bits .xor .i64 ((wrap64 ((wrap64 (s0_2 * 6364136223846793005)) + 1442695040888963407)) / 8589934592) ((wrap64 ((wrap64 (s0_2 * 6364136223846793005)) + 1442695040888963407)) / 140737488355328)) 255) + (wrap64 (rd s0_0 s0_1)))) 255, wrap64 (s0_1 + 1), wrap64 ((wrap64 (s0_2 * 6364136223846793005)) + 1442695040888963407))) else (none)) else (some (Go.bits .and .i64 (Go.bits .xor .i64 ((wrap64 ((wrap64 (s0_2 * 6364136223846793005)) + 1442695040888963407)) / 8589934592) ((wrap64 ((wrap64 (s0_2 * 6364136223846793005)) + 1442695040888963407)) / 140737488355328)) 255, s0_1, wrap64 ((wrap64 (s0_2 * 6364136223846793005)) + 1442695040888963407)))) = some (r1, r2, r3) := h
 clear h
 by_cases c2 : s0_1 < (s0_0.length : Int)
 ·
  rw [if_pos c2] at H
  have c2b0 : decide (s0_1 < (s0_0.length : Int)) = true := decide_eq_true c2
  clear c2
  by_cases c3 : 0 ≤ s0_1
  ·
   rw [if_pos c3] at H
   have c3b0 : decide (0 ≤ s0_1) = true := decide_eq_true c3
   clear c3
   simp only [Option.some.injEq, Prod.mk.injEq] at H
   obtain ⟨rfl, rfl, rfl⟩ := H
   obtain ⟨ASz4_0, cSz4_0, HGz4, hgz4, HSz4_0⟩ := HI0.out
   have hcz4_0 := cellS157_0 HGz4
   have hcz4_1 := cellS157_1 HGz4
   have hcz4_2 := cellS157_2 HGz4
   have hfz4_1 := kf_' HGz4 1
   have hfz4_2 := kf_' HGz4 2
   clear HGz4 hgz4
   have p104 : 0 ≤ (s0_1 : Int) := od_' (by first | (with_reducible assumption) | assumption)
   have q104 : s0_1 < (s0_0.length : Int) := od_' (by first | (with_reducible assumption) | assumption)
   obtain ⟨ad104, e104, hx104_0⟩ := Kd.at_int HSz4_0 s0_1 p104 q104
   cases e104
   have hn104_0 : ad104.block ≠ g := Nat.ne_of_lt (Nat.lt_of_lt_of_le (by have := bq_' _ _ hx104_0; first | rwa [add_block] at this | exact this) (IsS157.ge HI0.out))
   replace hx104_0 := pw_cell_below HB.out hx104_0
   replace hx104_0 := (cell_far (p := ⟨g, 2, none⟩) (by first | (rw [add_block]; exact hn104_0) | (show (Addr.add _ _).block ≠ _; rw [add_block]; exact hn104_0) | exact hn104_0) (.int .i64 (wrap64 ((wrap64 (s0_2 * 6364136223846793005)) + 1442695040888963407)))).trans hx104_0
   (try have hy104_0 := fun (n_ : Nat) => (show (((w.drewN n_).setCell ⟨g, 2, none⟩ (.int .i64 (wrap64 ((wrap64 (s0_2 * 6364136223846793005)) + 1442695040888963407))))).cell? _ = some _ from hx104_0))
   clear hn104_0
   replace p104 := eq_true p104
   replace q104 := eq_true q104
   go_enter Try.func136, Try.ntmps136
   go_wp2
   repeat (go_quiet (fail); try go_wp2)
   go_ret
   exact ⟨by first | rfl | (simp [errW_none, errW_some] <;> rfl) | (simp [*, errW_none, errW_some] <;> rfl), by repeat (first | (with_reducible first | exact HI0.out | apply IsS157.alloc | apply IsS157.drewN | apply IsS157.drew | apply IsS157.set_1 | apply IsS157.set_2) | exact HI0.out), by repeat (first | (with_reducible first | exact HB.out | apply pa_' | apply pn_' | apply pd_' | refine pt_' ?_ (IsS157.ge HI0.out)) | exact HB.out), by repeat (first | (with_reducible first | exact HK.out | apply KeepBut.set_ | apply keep_drewN | apply keep_drew | apply keep_alloc) | exact HK.out)⟩
  rw [if_neg c3] at H
  exact absurd H (by simp)
 rw [if_neg c2] at H
 have c2b0 : decide (s0_1 < (s0_0.length : Int)) = false := decide_eq_false c2
 clear c2
 simp only [Option.some.injEq, Prod.mk.injEq] at H
 obtain ⟨rfl, rfl, rfl⟩ := H
 obtain ⟨ASz5_0, cSz5_0, HGz5, hgz5, HSz5_0⟩ := HI0.out
 have hcz5_0 := cellS157_0 HGz5
 have hcz5_1 := cellS157_1 HGz5
 have hcz5_2 := cellS157_2 HGz5
 have hfz5_1 := kf_' HGz5 1
 have hfz5_2 := kf_' HGz5 2
 clear HGz5 hgz5
 go_enter Try.func136, Try.ntmps136
 go_wp2
 repeat (go_quiet (fail); try go_wp2)
 go_ret
 exact ⟨by first | rfl | (simp [errW_none, errW_some] <;> rfl) | (simp [*, errW_none, errW_some] <;> rfl), by repeat (first | (with_reducible first | exact HI0.out | apply IsS157.alloc | apply IsS157.drewN | apply IsS157.drew | apply IsS157.set_1 | apply IsS157.set_2) | exact HI0.out), by repeat (first | (with_reducible first | exact HB.out | apply pa_' | apply pn_' | apply pd_' | refine pt_' ?_ (IsS157.ge HI0.out)) | exact HB.out), by repeat (first | (with_reducible first | exact HK.out | apply KeepBut.set_ | apply keep_drewN | apply keep_drew | apply keep_alloc) | exact HK.out)⟩
end Go.Proofs.Ytbhlmeghbfmgiaa.F

namespace Go.Proofs.Ytbhlmeghbfmgiaa.F
open Go.RowKit Go.Proofs.YtbhlmeghbfmgiaaW.PrintWords Go.Proofs.YtbhlmeghbfmgiaaW.PrintLast Go.Proofs.YtbhlmeghbfmgiaaW.PrintMore
attribute [local go_sem] max2_int min2_int max_two min_two max_three min_three max_four min_four
set_option linter.unusedVariables false
set_option linter.unusedSimpArgs false
def spec_l1Below.f (s0_0 : List Int) (s0_1 : Int) (s0_2 : Int) (a1 : Int) : Option (Int × Int × Int) := if a1 ≤ 0 then (some (0, s0_1, s0_2)) else (if a1 ≤ 256 then ((spec_l1Byte.f s0_0 s0_1 s0_2).bind fun bt105 => (if a1 = 0 then (none) else (some (Int.tmod bt105.1 a1, bt105.2.1, bt105.2.2)))) else ((spec_l1Byte.f s0_0 s0_1 s0_2).bind fun bt108 => ((spec_l1Byte.f s0_0 bt108.2.1 bt108.2.2).bind fun bt111 => ((spec_l1Byte.f s0_0 bt111.2.1 bt111.2.2).bind fun bt114 => (if a1 = 0 then (none) else (some (Int.tmod (wrap64 ((wrap64 ((wrap64 (bt108.1 * 65536)) + (wrap64 (bt111.1 * 256)))) + bt114.1)) a1, bt114.2.1, bt114.2.2)))))))
set_option maxHeartbeats 8000000 in
set_option maxRecDepth 100000 in
theorem spec_l1Below.calls (g : Nat) (s0_0 : List Int) (s0_1 : Int) (s0_2 : Int) (a1 : Int) (r1 : Int) (r2 : Int) (r3 : Int) (w0 w : World) (hI : IsS157 w0 w g s0_0 s0_1 s0_2) (hB : Below w0.heap.size w0 w) (h : spec_l1Below.f s0_0 s0_1 s0_2 a1 = some (r1, r2, r3)) :
  Calls Try.prog 91 #[.pointer (some ⟨g, 0, none⟩), .int .i64 a1] w fun e w' => e = .returned (.int .i64 r1) ∧ IsS157 w0 w' g s0_0 r2 r3 ∧ Below w0.heap.size w0 w' ∧ KeepBut w w' g none := by
 have HI0 := sk_' hI
 have HK := sk_' (KeepBut.refl w g none)
 have HL := sk_' hB.size
 clear hI
 have HW0 := sk_' hB.size
 have HB := sk_' hB
 clear hB
 have H : (if a1 ≤ 0 then (some (0, s0_1, s0_2)) else (if a1 ≤ 256 then ((spec_l1Byte.f s0_0 s0_1 s0_2).bind fun bt105 => (if a1 = 0 then (none) else (some (Int.tmod bt105.1 a1, bt105.2.1, bt105.2.2)))) else ((spec_l1Byte.f s0_0 s0_1 s0_2).bind fun bt108 => ((spec_l1Byte.f s0_0 bt108.2.1 bt108.2.2).bind fun bt111 => ((spec_l1Byte.f s0_0 bt111.2.1 bt111.2.2).bind fun bt114 => (if a1 = 0 then (none) else (some (Int.tmod (wrap64 ((wrap64 ((wrap64 (bt108.1 * 65536)) + (wrap64 (bt111.1 * 256)))) + bt114.1)) a1, bt114.2.1, bt114.2.2)))))))) = some (r1, r2, r3) := h
 clear h
 by_cases c3 : a1 ≤ 0
 ·
  rw [if_pos c3] at H
  have c3b0 : decide (a1 ≤ 0) = true := decide_eq_true c3
  clear c3
  simp only [Option.some.injEq, Prod.mk.injEq] at H
  obtain ⟨rfl, rfl, rfl⟩ := H
  go_enter Try.func91, Try.ntmps91
  go_wp2
  go_ret
  exact ⟨by first | rfl | (simp [errW_none, errW_some] <;> rfl) | (simp [*, errW_none, errW_some] <;> rfl), by repeat (first | (with_reducible first | exact HI0.out | apply IsS157.alloc | apply IsS157.drewN | apply IsS157.drew | apply IsS157.set_1 | apply IsS157.set_2) | exact HI0.out), by repeat (first | (with_reducible first | exact HB.out | apply pa_' | apply pn_' | apply pd_' | refine pt_' ?_ (IsS157.ge HI0.out)) | exact HB.out), by repeat (first | (with_reducible first | exact HK.out | apply KeepBut.set_ | apply keep_drewN | apply keep_drew | apply keep_alloc) | exact HK.out)⟩
 rw [if_neg c3] at H
 have c3b0 : decide (a1 ≤ 0) = false := decide_eq_false c3
 clear c3
 by_cases c4 : a1 ≤ 256
 ·
  rw [if_pos c4] at H
  have c4b0 : decide (a1 ≤ 256) = true := decide_eq_true c4
  clear c4
  replace H := bs_' H
  obtain ⟨⟨t105, t106, t107⟩, A50, H⟩ := H
  try dsimp only at H
  have A5 := sk_' A50
  clear A50
  by_cases c6 : a1 = 0
  ·
   rw [if_pos c6] at H
   exact absurd H (by simp)
  rw [if_neg c6] at H
  have c6b0 : (a1 == 0) = false := beq_eq_false_iff_ne.mpr c6
  have c6b1 : (a1 != 0) = true := bne_iff_ne.mpr c6
  simp only [Option.some.injEq, Prod.mk.injEq] at H
  obtain ⟨rfl, rfl, rfl⟩ := H
  go_enter Try.func91, Try.ntmps91
  go_wp2_with (first | ((with_reducible refine xj_' (f := 136) rfl ?_); refine goesL_ (some 13) rfl rfl Try.func136 (by kernel_rfl) rfl #[.pointer (some ⟨g, 0, none⟩)] rfl (by (try simp only [xm_', xc_', xn_']); first | done | rfl | (simp only [xd_', xt_']; rfl)) ?_; (with_reducible refine (spec_l1Byte.calls g s0_0 s0_1 s0_2 t105 t106 t107 w0 _ ?side1 ?side2 A5.out).mono ?_); (case side1 => repeat (first | (with_reducible first | exact HI0.out | apply IsS157.alloc | apply IsS157.drewN | apply IsS157.drew | apply IsS157.set_1 | apply IsS157.set_2) | exact HI0.out)); (case side2 => repeat (first | (with_reducible first | exact HB.out | apply pa_' | apply pn_' | apply pd_' | refine pt_' ?_ (IsS157.ge HI0.out)) | exact HB.out)); rintro e w7 ⟨rfl, hi, hb, hk⟩; refine ⟨_, rfl, ?_⟩; have n0_ := sk_' (KeepBut.trans (by repeat (first | (with_reducible first | exact HK.out | apply KeepBut.set_ | apply keep_drewN | apply keep_drew | apply keep_alloc) | exact HK.out)) hk (.inl rfl)); have n1_ := sk_' (hb); have n2_ := sk_' (hi); clear HK; clear HB; clear HI0; have HK := n0_; have HB := n1_; have HI0 := n2_; clear n0_ n1_ n2_; (try clear hb); (try clear hb2); (try clear hk); (try clear hi)))
  go_ret
  exact ⟨by first | rfl | (simp [errW_none, errW_some] <;> rfl) | (simp [*, errW_none, errW_some] <;> rfl), by repeat (first | (with_reducible first | exact HI0.out | apply IsS157.alloc | apply IsS157.drewN | apply IsS157.drew | apply IsS157.set_1 | apply IsS157.set_2) | exact HI0.out), by repeat (first | (with_reducible first | exact HB.out | apply pa_' | apply pn_' | apply pd_' | refine pt_' ?_ (IsS157.ge HI0.out)) | exact HB.out), by repeat (first | (with_reducible first | exact HK.out | apply KeepBut.set_ | apply keep_drewN | apply keep_drew | apply keep_alloc) | exact HK.out)⟩
 rw [if_neg c4] at H
 have c4b0 : decide (a1 ≤ 256) = false := decide_eq_false c4
 clear c4
 replace H := bs_' H
 obtain ⟨⟨t108, t109, t110⟩, A80, H⟩ := H
 try dsimp only at H
 have A8 := sk_' A80
 clear A80
 replace H := bs_' H
 obtain ⟨⟨t111, t112, t113⟩, A90, H⟩ := H
 try dsimp only at H
 have A9 := sk_' A90
 clear A90
 replace H := bs_' H
 obtain ⟨⟨t114, t115, t116⟩, A100, H⟩ := H
 try dsimp only at H
 have A10 := sk_' A100
 clear A100
 by_cases c11 : a1 = 0
 ·
  rw [if_pos c11] at H
  exact absurd H (by simp)
 rw [if_neg c11] at H
 have c11b0 : (a1 == 0) = false := beq_eq_false_iff_ne.mpr c11
 have c11b1 : (a1 != 0) = true := bne_iff_ne.mpr c11
 simp only [Option.some.injEq, Prod.mk.injEq] at H
 obtain ⟨rfl, rfl, rfl⟩ := H
 go_enter Try.func91, Try.ntmps91
 go_wp2_with (first | ((with_reducible refine xj_' (f := 136) rfl ?_); refine goesL_ (some 17) rfl rfl Try.func136 (by kernel_rfl) rfl #[.pointer (some ⟨g, 0, none⟩)] rfl (by (try simp only [xm_', xc_', xn_']); first | done | rfl | (simp only [xd_', xt_']; rfl)) ?_; (with_reducible refine (spec_l1Byte.calls g s0_0 s0_1 s0_2 t108 t109 t110 w0 _ ?side1 ?side2 A8.out).mono ?_); (case side1 => repeat (first | (with_reducible first | exact HI0.out | apply IsS157.alloc | apply IsS157.drewN | apply IsS157.drew | apply IsS157.set_1 | apply IsS157.set_2) | exact HI0.out)); (case side2 => repeat (first | (with_reducible first | exact HB.out | apply pa_' | apply pn_' | apply pd_' | refine pt_' ?_ (IsS157.ge HI0.out)) | exact HB.out)); rintro e w12 ⟨rfl, hi, hb, hk⟩; refine ⟨_, rfl, ?_⟩; have n0_ := sk_' (KeepBut.trans (by repeat (first | (with_reducible first | exact HK.out | apply KeepBut.set_ | apply keep_drewN | apply keep_drew | apply keep_alloc) | exact HK.out)) hk (.inl rfl)); have n1_ := sk_' (hb); have n2_ := sk_' (hi); clear HK; clear HB; clear HI0; have HK := n0_; have HB := n1_; have HI0 := n2_; clear n0_ n1_ n2_; (try clear hb); (try clear hb2); (try clear hk); (try clear hi)) | ((with_reducible refine xj_' (f := 136) rfl ?_); refine goesL_ (some 19) rfl rfl Try.func136 (by kernel_rfl) rfl #[.pointer (some ⟨g, 0, none⟩)] rfl (by (try simp only [xm_', xc_', xn_']); first | done | rfl | (simp only [xd_', xt_']; rfl)) ?_; (with_reducible refine (spec_l1Byte.calls g s0_0 t109 t110 t111 t112 t113 w0 _ ?side1 ?side2 A9.out).mono ?_); (case side1 => repeat (first | (with_reducible first | exact HI0.out | apply IsS157.alloc | apply IsS157.drewN | apply IsS157.drew | apply IsS157.set_1 | apply IsS157.set_2) | exact HI0.out)); (case side2 => repeat (first | (with_reducible first | exact HB.out | apply pa_' | apply pn_' | apply pd_' | refine pt_' ?_ (IsS157.ge HI0.out)) | exact HB.out)); rintro e w13 ⟨rfl, hi, hb, hk⟩; refine ⟨_, rfl, ?_⟩; have n0_ := sk_' (KeepBut.trans (by repeat (first | (with_reducible first | exact HK.out | apply KeepBut.set_ | apply keep_drewN | apply keep_drew | apply keep_alloc) | exact HK.out)) hk (.inl rfl)); have n1_ := sk_' (hb); have n2_ := sk_' (hi); clear HK; clear HB; clear HI0; have HK := n0_; have HB := n1_; have HI0 := n2_; clear n0_ n1_ n2_; (try clear hb); (try clear hb2); (try clear hk); (try clear hi)) | ((with_reducible refine xj_' (f := 136) rfl ?_); refine goesL_ (some 21) rfl rfl Try.func136 (by kernel_rfl) rfl #[.pointer (some ⟨g, 0, none⟩)] rfl (by (try simp only [xm_', xc_', xn_']); first | done | rfl | (simp only [xd_', xt_']; rfl)) ?_; (with_reducible refine (spec_l1Byte.calls g s0_0 t112 t113 t114 t115 t116 w0 _ ?side1 ?side2 A10.out).mono ?_); (case side1 => repeat (first | (with_reducible first | exact HI0.out | apply IsS157.alloc | apply IsS157.drewN | apply IsS157.drew | apply IsS157.set_1 | apply IsS157.set_2) | exact HI0.out)); (case side2 => repeat (first | (with_reducible first | exact HB.out | apply pa_' | apply pn_' | apply pd_' | refine pt_' ?_ (IsS157.ge HI0.out)) | exact HB.out)); rintro e w14 ⟨rfl, hi, hb, hk⟩; refine ⟨_, rfl, ?_⟩; have n0_ := sk_' (KeepBut.trans (by repeat (first | (with_reducible first | exact HK.out | apply KeepBut.set_ | apply keep_drewN | apply keep_drew | apply keep_alloc) | exact HK.out)) hk (.inl rfl)); have n1_ := sk_' (hb); have n2_ := sk_' (hi); clear HK; clear HB; clear HI0; have HK := n0_; have HB := n1_; have HI0 := n2_; clear n0_ n1_ n2_; (try clear hb); (try clear hb2); (try clear hk); (try clear hi)))
 go_ret
 exact ⟨by first | rfl | (simp [errW_none, errW_some] <;> rfl) | (simp [*, errW_none, errW_some] <;> rfl), by repeat (first | (with_reducible first | exact HI0.out | apply IsS157.alloc | apply IsS157.drewN | apply IsS157.drew | apply IsS157.set_1 | apply IsS157.set_2) | exact HI0.out), by repeat (first | (with_reducible first | exact HB.out | apply pa_' | apply pn_' | apply pd_' | refine pt_' ?_ (IsS157.ge HI0.out)) | exact HB.out), by repeat (first | (with_reducible first | exact HK.out | apply KeepBut.set_ | apply keep_drewN | apply keep_drew | apply keep_alloc) | exact HK.out)⟩
end Go.Proofs.Ytbhlmeghbfmgiaa.F

namespace Go.Proofs.Ytbhlmeghbfmgiaa.F
open Go.RowKit Go.Proofs.YtbhlmeghbfmgiaaW.PrintWords Go.Proofs.YtbhlmeghbfmgiaaW.PrintLast Go.Proofs.YtbhlmeghbfmgiaaW.PrintMore
attribute [local go_sem] max2_int min2_int max_two min_two max_three min_three max_four min_four
set_option linter.unusedVariables false
set_option linter.unusedSimpArgs false
def spec_l1Int.f (s0_0 : List Int) (s0_1 : Int) (s0_2 : Int) (l1 : List Int) : Option (Int × Int × Int) := (spec_l1Below.f s0_0 s0_1 s0_2 (l1.length : Int)).bind fun bt117 => (if 0 ≤ bt117.1 then (if bt117.1 < (l1.length : Int) then (some (rd l1 bt117.1, bt117.2.1, bt117.2.2)) else (none)) else (none))
set_option maxHeartbeats 8000000 in
set_option maxRecDepth 100000 in
theorem spec_l1Int.calls (g : Nat) (s0_0 : List Int) (s0_1 : Int) (s0_2 : Int) (A1 : Option Addr) (c1 : Nat) (l1 : List Int) (r1 : Int) (r2 : Int) (r3 : Int) (w0 w : World) (hI : IsS157 w0 w g s0_0 s0_1 s0_2) (hB : Below w0.heap.size w0 w) (hr1 : Kd.C (Kd.int .i64) w A1 l1.length l1) (hc1 : l1.length ≤ c1) (hf1 : ∀ ad, A1 = some ad → 0 < l1.length → ad.block ≠ g) (h : spec_l1Int.f s0_0 s0_1 s0_2 l1 = some (r1, r2, r3)) :
  Calls Try.prog 78 #[.pointer (some ⟨g, 0, none⟩), .slice A1 l1.length c1] w fun e w' => e = .returned (.int .i64 r1) ∧ IsS157 w0 w' g s0_0 r2 r3 ∧ Below w0.heap.size w0 w' ∧ KeepBut w w' g none := by
 have HR1 := sk_' hr1
 have HC1 := sk_' hc1
 clear hr1 hc1
 have HI0 := sk_' hI
 have HK := sk_' (KeepBut.refl w g none)
 have HL := sk_' hB.size
 clear hI
 have HW0 := sk_' hB.size
 have HB := sk_' hB
 clear hB
 have H : ((spec_l1Below.f s0_0 s0_1 s0_2 (l1.length : Int)).bind fun bt117 => (if 0 ≤ bt117.1 then (if bt117.1 < (l1.length : Int) then (some (rd l1 bt117.1, bt117.2.1, bt117.2.2)) else (none)) else (none))) = some (r1, r2, r3) := h
 clear h
 replace H := bs_' H
 obtain ⟨⟨t117, t118, t119⟩, A30, H⟩ := H
 try dsimp only at H
 have A3 := sk_' A30
 clear A30
 by_cases c4 : 0 ≤ t117
 ·
  rw [if_pos c4] at H
  have c4b0 : decide (0 ≤ t117) = true := decide_eq_true c4
  clear c4
  by_cases c5 : t117 < (l1.length : Int)
  ·
   rw [if_pos c5] at H
   have c5b0 : decide (t117 < (l1.length : Int)) = true := decide_eq_true c5
   clear c5
   simp only [Option.some.injEq, Prod.mk.injEq] at H
   obtain ⟨rfl, rfl, rfl⟩ := H
   go_enter Try.func78, Try.ntmps78
   go_wp2_with (first | ((with_reducible refine xj_' (f := 91) rfl ?_); refine goesL_ (some 9) rfl rfl Try.func91 (by kernel_rfl) rfl #[.pointer (some ⟨g, 0, none⟩), .int .i64 (l1.length : Int)] rfl (by (try simp only [xm_', xc_', xn_']); first | done | rfl | (simp only [xd_', xt_']; rfl)) ?_; (with_reducible refine (spec_l1Below.calls g s0_0 s0_1 s0_2 (l1.length : Int) t117 t118 t119 w0 _ ?side1 ?side2 A3.out).mono ?_); (case side1 => repeat (first | (with_reducible first | exact HI0.out | apply IsS157.alloc | apply IsS157.drewN | apply IsS157.drew | apply IsS157.set_1 | apply IsS157.set_2) | exact HI0.out)); (case side2 => repeat (first | (with_reducible first | exact HB.out | apply pa_' | apply pn_' | apply pd_' | refine pt_' ?_ (IsS157.ge HI0.out)) | exact HB.out)); rintro e w6 ⟨rfl, hi, hb, hk⟩; refine ⟨_, rfl, ?_⟩; have n0_ := sk_' (KeepBut.trans (by repeat (first | (with_reducible first | exact HK.out | apply KeepBut.set_ | apply keep_drewN | apply keep_drew | apply keep_alloc) | exact HK.out)) hk (.inl rfl)); have n1_ := sk_' (hb); have n2_ := sk_' (hi); clear HK; clear HB; clear HI0; have HK := n0_; have HB := n1_; have HI0 := n2_; clear n0_ n1_ n2_; (try clear hb); (try clear hb2); (try clear hk); (try clear hi); have p120 : 0 ≤ (t117 : Int) := od_' (by first | (with_reducible assumption) | assumption); have q120 : t117 < (l1.length : Int) := od_' (by first | (with_reducible assumption) | assumption); obtain ⟨ad120, e120, hx120_0⟩ := Kd.at_int HR1.out t117 p120 q120; cases e120; replace hx120_0 := keep_cell HK.out hx120_0 (by first | (rw [add_block]; exact hf1 _ rfl (by omega)) | exact hf1 _ rfl (by omega) | exact hf1 ad120 rfl (by omega)); replace p120 := eq_true p120; replace q120 := eq_true q120))
   go_ret
   exact ⟨by first | rfl | (simp [errW_none, errW_some] <;> rfl) | (simp [*, errW_none, errW_some] <;> rfl), by repeat (first | (with_reducible first | exact HI0.out | apply IsS157.alloc | apply IsS157.drewN | apply IsS157.drew | apply IsS157.set_1 | apply IsS157.set_2) | exact HI0.out), by repeat (first | (with_reducible first | exact HB.out | apply pa_' | apply pn_' | apply pd_' | refine pt_' ?_ (IsS157.ge HI0.out)) | exact HB.out), by repeat (first | (with_reducible first | exact HK.out | apply KeepBut.set_ | apply keep_drewN | apply keep_drew | apply keep_alloc) | exact HK.out)⟩
  rw [if_neg c5] at H
  exact absurd H (by simp)
 rw [if_neg c4] at H
 exact absurd H (by simp)
end Go.Proofs.Ytbhlmeghbfmgiaa.F

namespace Go.Proofs.Ytbhlmeghbfmgiaa.F
open Go.RowKit Go.Proofs.YtbhlmeghbfmgiaaW.PrintWords Go.Proofs.YtbhlmeghbfmgiaaW.PrintLast Go.Proofs.YtbhlmeghbfmgiaaW.PrintMore
attribute [local go_sem] max2_int min2_int max_two min_two max_three min_three max_four min_four
set_option linter.unusedVariables false
set_option linter.unusedSimpArgs false
def spec_l8Event.f (s0_0 : List Int) (s0_1 : Int) (s0_2 : Int) : Option (Int × Int × Int × Int × Int × Int) := (spec_l1Below.f s0_0 s0_1 s0_2 20).bind fun bt122 => ((spec_l1Below.f s0_0 bt122.2.1 bt122.2.2 10).bind fun bt125 => ((spec_l1Below.f s0_0 bt125.2.1 bt125.2.2 18).bind fun bt128 => ((spec_l1Below.f s0_0 bt128.2.1 bt128.2.2 3).bind fun bt131 => (some (wrap64 (6 * bt122.1), wrap64 (3 * (wrap64 (1 + bt125.1))), wrap64 (55 + bt128.1), wrap64 (1 + bt131.1), bt131.2.1, bt131.2.2)))))
set_option maxHeartbeats 8000000 in
set_option maxRecDepth 100000 in
theorem spec_l8Event.calls (g : Nat) (s0_0 : List Int) (s0_1 : Int) (s0_2 : Int) (r1 : Int) (r2 : Int) (r3 : Int) (r4 : Int) (r5 : Int) (r6 : Int) (w0 w : World) (hI : IsS157 w0 w g s0_0 s0_1 s0_2) (hB : Below w0.heap.size w0 w) (h : spec_l8Event.f s0_0 s0_1 s0_2 = some (r1, r2, r3, r4, r5, r6)) :
  Calls Try.prog 76 #[.pointer (some ⟨g, 0, none⟩)] w fun e w' => e = .returned (.agg #[.int .i64 r1, .int .i64 r2, .int .i64 r3, .int .i64 r4]) ∧ IsS157 w0 w' g s0_0 r5 r6 ∧ Below w0.heap.size w0 w' ∧ KeepBut w w' g none := by
 have hu26 := Try.underlying26
 have HI0 := sk_' hI
 have HK := sk_' (KeepBut.refl w g none)
 have HL := sk_' hB.size
 clear hI
 have HW0 := sk_' hB.size
 have HB := sk_' hB
 clear hB
 have H : ((spec_l1Below.f s0_0 s0_1 s0_2 20).bind fun bt122 => ((spec_l1Below.f s0_0 bt122.2.1 bt122.2.2 10).bind fun bt125 => ((spec_l1Below.f s0_0 bt125.2.1 bt125.2.2 18).bind fun bt128 => ((spec_l1Below.f s0_0 bt128.2.1 bt128.2.2 3).bind fun bt131 => (some (wrap64 (6 * bt122.1), wrap64 (3 * (wrap64 (1 + bt125.1))), wrap64 (55 + bt128.1), wrap64 (1 + bt131.1), bt131.2.1, bt131.2.2)))))) = some (r1, r2, r3, r4, r5, r6) := h
 clear h
 replace H := bs_' H
 obtain ⟨⟨t122, t123, t124⟩, A20, H⟩ := H
 try dsimp only at H
 have A2 := sk_' A20
 clear A20
 replace H := bs_' H
 obtain ⟨⟨t125, t126, t127⟩, A30, H⟩ := H
 try dsimp only at H
 have A3 := sk_' A30
 clear A30
 replace H := bs_' H
 obtain ⟨⟨t128, t129, t130⟩, A40, H⟩ := H
 try dsimp only at H
 have A4 := sk_' A40
 clear A40
 replace H := bs_' H
 obtain ⟨⟨t131, t132, t133⟩, A50, H⟩ := H
 try dsimp only at H
 have A5 := sk_' A50
 clear A50
 simp only [Option.some.injEq, Prod.mk.injEq] at H
 obtain ⟨rfl, rfl, rfl, rfl, rfl, rfl⟩ := H
 go_enter Try.func76, Try.ntmps76
 go_wp2_with (first | ((with_reducible refine gate_dst (N := 2) rfl ?_); refine box_event ?hg (N := 2) ?hd (cs := #[.int .i64 0, .int .i64 0, .int .i64 0, .int .i64 0]) (t := 26) ?hr ?_; (case hd => rfl); (case hg => rfl); (case hr => first | (go_simp; done) | (go_simp; rfl)); intro gb121 hg w6 hbox hb; have n0_ := sk_' (IsS157.below (by repeat (first | (with_reducible first | exact HI0.out | apply IsS157.alloc | apply IsS157.drewN | apply IsS157.drew | apply IsS157.set_1 | apply IsS157.set_2) | exact HI0.out)) hb); have n1_ := sk_' (KeepBut.trans (by repeat (first | (with_reducible first | exact HK.out | apply KeepBut.set_ | apply keep_drewN | apply keep_drew | apply keep_alloc) | exact HK.out)) (KeepBut.of_below hb g none) (.inl rfl)); have n2_ := sk_' (pp_' (by repeat (first | (with_reducible first | exact HB.out | apply pa_' | apply pn_' | apply pd_' | refine pt_' ?_ (IsS157.ge HI0.out)) | exact HB.out)) hb); have n3_ := sk_' (hbox); have n4_ := sk_' ((by rw [hg]; exact (keep_size (w := w) (g := g) (row := none) (by repeat (first | (with_reducible first | exact HK.out | apply KeepBut.set_ | apply keep_drewN | apply keep_drew | apply keep_alloc) | exact HK.out))) : w.heap.size ≤ gb121)); have n5_ := sk_' ((Nat.le_trans HW0.out (by rw [hg]; exact (keep_size (w := w) (g := g) (row := none) (by repeat (first | (with_reducible first | exact HK.out | apply KeepBut.set_ | apply keep_drewN | apply keep_drew | apply keep_alloc) | exact HK.out))) : w.heap.size ≤ gb121) : w0.heap.size ≤ gb121)); have n6_ := sk_' ((by rw [hg]; exact Nat.ne_of_lt (IsS157.lt (show IsS157 w0 _ g s0_0 s0_1 s0_2 from by repeat (first | (with_reducible first | exact HI0.out | apply IsS157.alloc | apply IsS157.drewN | apply IsS157.drew | apply IsS157.set_1 | apply IsS157.set_2) | exact HI0.out))) : g ≠ gb121)); have n7_ := sk_' ((by rw [hg]; exact Nat.ne_of_gt (IsS157.lt (show IsS157 w0 _ g s0_0 s0_1 s0_2 from by repeat (first | (with_reducible first | exact HI0.out | apply IsS157.alloc | apply IsS157.drewN | apply IsS157.drew | apply IsS157.set_1 | apply IsS157.set_2) | exact HI0.out))) : gb121 ≠ g)); clear HI0; clear HK; clear HB; have HI0 := n0_; have HK := n1_; have HB := n2_; have BK121 := n3_; have GW121 := n4_; have GE121 := n5_; have NB0_121 := n6_; have NB121_0 := n7_; clear n0_ n1_ n2_ n3_ n4_ n5_ n6_ n7_; clear hb hbox hg) | ((with_reducible refine xj_' (f := 91) rfl ?_); refine goesL_ (some 4) rfl rfl Try.func91 (by kernel_rfl) rfl #[.pointer (some ⟨g, 0, none⟩), .int .i64 20] rfl (by (try simp only [xm_', xc_', xn_']); first | done | rfl | (simp only [xd_', xt_']; rfl)) ?_; (with_reducible refine (spec_l1Below.calls g s0_0 s0_1 s0_2 20 t122 t123 t124 w0 _ ?side1 ?side2 A2.out).mono ?_); (case side1 => repeat (first | (with_reducible first | exact HI0.out | apply IsS157.alloc | apply IsS157.drewN | apply IsS157.drew | apply IsS157.set_1 | apply IsS157.set_2 | refine IsS157.far ?_ NB0_121.out _) | exact HI0.out)); (case side2 => repeat (first | (with_reducible first | exact HB.out | apply pa_' | apply pn_' | apply pd_' | refine pt_' ?_ (IsS157.ge HI0.out) | refine pt_' ?_ GE121.out) | exact HB.out)); rintro e w7 ⟨rfl, hi, hb, hk⟩; refine ⟨_, rfl, ?_⟩; have n0_ := sk_' (KeepBut.blk hk (g' := gb121) (o := .cells #[.int .i64 0, .int .i64 0, .int .i64 0, .int .i64 0] 26 (0, 0)) (by (with_reducible repeat (first | refine kn_' ?_ _ | refine kd_' ?_ | refine ka_' ?_ _)); exact BK121.out) NB121_0.out (by simp)); have n1_ := sk_' (KeepBut.trans (by repeat (first | (with_reducible first | exact HK.out | apply KeepBut.set_ | apply keep_drewN | apply keep_drew | apply keep_alloc | refine keep_far ?_ GW121.out _) | exact HK.out)) hk (.inl rfl)); have n2_ := sk_' (hb); have n3_ := sk_' (hi); clear BK121; clear HK; clear HB; clear HI0; have BK121 := n0_; have HK := n1_; have HB := n2_; have HI0 := n3_; clear n0_ n1_ n2_ n3_; (try clear hb); (try clear hb2); (try clear hk); (try clear hi)) | ((with_reducible refine xj_' (f := 91) rfl ?_); refine goesL_ (some 7) rfl rfl Try.func91 (by kernel_rfl) rfl #[.pointer (some ⟨g, 0, none⟩), .int .i64 10] rfl (by (try simp only [xm_', xc_', xn_']); first | done | rfl | (simp only [xd_', xt_']; rfl)) ?_; (with_reducible refine (spec_l1Below.calls g s0_0 t123 t124 10 t125 t126 t127 w0 _ ?side1 ?side2 A3.out).mono ?_); (case side1 => repeat (first | (with_reducible first | exact HI0.out | apply IsS157.alloc | apply IsS157.drewN | apply IsS157.drew | apply IsS157.set_1 | apply IsS157.set_2 | refine IsS157.far ?_ NB0_121.out _) | exact HI0.out)); (case side2 => repeat (first | (with_reducible first | exact HB.out | apply pa_' | apply pn_' | apply pd_' | refine pt_' ?_ (IsS157.ge HI0.out) | refine pt_' ?_ GE121.out) | exact HB.out)); rintro e w8 ⟨rfl, hi, hb, hk⟩; refine ⟨_, rfl, ?_⟩; have n0_ := sk_' (KeepBut.blk hk (g' := gb121) (o := .cells #[.int .i64 0, .int .i64 0, .int .i64 0, .int .i64 0] 26 (0, 0)) (by (with_reducible repeat (first | refine kn_' ?_ _ | refine kd_' ?_ | refine ka_' ?_ _)); exact BK121.out) NB121_0.out (by simp)); have n1_ := sk_' (KeepBut.trans (by repeat (first | (with_reducible first | exact HK.out | apply KeepBut.set_ | apply keep_drewN | apply keep_drew | apply keep_alloc | refine keep_far ?_ GW121.out _) | exact HK.out)) hk (.inl rfl)); have n2_ := sk_' (hb); have n3_ := sk_' (hi); clear BK121; clear HK; clear HB; clear HI0; have BK121 := n0_; have HK := n1_; have HB := n2_; have HI0 := n3_; clear n0_ n1_ n2_ n3_; (try clear hb); (try clear hb2); (try clear hk); (try clear hi)) | ((with_reducible refine xj_' (f := 91) rfl ?_); refine goesL_ (some 11) rfl rfl Try.func91 (by kernel_rfl) rfl #[.pointer (some ⟨g, 0, none⟩), .int .i64 18] rfl (by (try simp only [xm_', xc_', xn_']); first | done | rfl | (simp only [xd_', xt_']; rfl)) ?_; (with_reducible refine (spec_l1Below.calls g s0_0 t126 t127 18 t128 t129 t130 w0 _ ?side1 ?side2 A4.out).mono ?_); (case side1 => repeat (first | (with_reducible first | exact HI0.out | apply IsS157.alloc | apply IsS157.drewN | apply IsS157.drew | apply IsS157.set_1 | apply IsS157.set_2 | refine IsS157.far ?_ NB0_121.out _) | exact HI0.out)); (case side2 => repeat (first | (with_reducible first | exact HB.out | apply pa_' | apply pn_' | apply pd_' | refine pt_' ?_ (IsS157.ge HI0.out) | refine pt_' ?_ GE121.out) | exact HB.out)); rintro e w9 ⟨rfl, hi, hb, hk⟩; refine ⟨_, rfl, ?_⟩; have n0_ := sk_' (KeepBut.blk hk (g' := gb121) (o := .cells #[.int .i64 0, .int .i64 0, .int .i64 0, .int .i64 0] 26 (0, 0)) (by (with_reducible repeat (first | refine kn_' ?_ _ | refine kd_' ?_ | refine ka_' ?_ _)); exact BK121.out) NB121_0.out (by simp)); have n1_ := sk_' (KeepBut.trans (by repeat (first | (with_reducible first | exact HK.out | apply KeepBut.set_ | apply keep_drewN | apply keep_drew | apply keep_alloc | refine keep_far ?_ GW121.out _) | exact HK.out)) hk (.inl rfl)); have n2_ := sk_' (hb); have n3_ := sk_' (hi); clear BK121; clear HK; clear HB; clear HI0; have BK121 := n0_; have HK := n1_; have HB := n2_; have HI0 := n3_; clear n0_ n1_ n2_ n3_; (try clear hb); (try clear hb2); (try clear hk); (try clear hi)) | ((with_reducible refine xj_' (f := 91) rfl ?_); refine goesL_ (some 14) rfl rfl Try.func91 (by kernel_rfl) rfl #[.pointer (some ⟨g, 0, none⟩), .int .i64 3] rfl (by (try simp only [xm_', xc_', xn_']); first | done | rfl | (simp only [xd_', xt_']; rfl)) ?_; (with_reducible refine (spec_l1Below.calls g s0_0 t129 t130 3 t131 t132 t133 w0 _ ?side1 ?side2 A5.out).mono ?_); (case side1 => repeat (first | (with_reducible first | exact HI0.out | apply IsS157.alloc | apply IsS157.drewN | apply IsS157.drew | apply IsS157.set_1 | apply IsS157.set_2 | refine IsS157.far ?_ NB0_121.out _) | exact HI0.out)); (case side2 => repeat (first | (with_reducible first | exact HB.out | apply pa_' | apply pn_' | apply pd_' | refine pt_' ?_ (IsS157.ge HI0.out) | refine pt_' ?_ GE121.out) | exact HB.out)); rintro e w10 ⟨rfl, hi, hb, hk⟩; refine ⟨_, rfl, ?_⟩; have n0_ := sk_' (KeepBut.blk hk (g' := gb121) (o := .cells #[.int .i64 0, .int .i64 0, .int .i64 0, .int .i64 0] 26 (0, 0)) (by (with_reducible repeat (first | refine kn_' ?_ _ | refine kd_' ?_ | refine ka_' ?_ _)); exact BK121.out) NB121_0.out (by simp)); have n1_ := sk_' (KeepBut.trans (by repeat (first | (with_reducible first | exact HK.out | apply KeepBut.set_ | apply keep_drewN | apply keep_drew | apply keep_alloc | refine keep_far ?_ GW121.out _) | exact HK.out)) hk (.inl rfl)); have n2_ := sk_' (hb); have n3_ := sk_' (hi); clear BK121; clear HK; clear HB; clear HI0; have BK121 := n0_; have HK := n1_; have HB := n2_; have HI0 := n3_; clear n0_ n1_ n2_ n3_; (try clear hb); (try clear hb2); (try clear hk); (try clear hi); have hnb11 := NB121_0.out; have hnc11 := NB0_121.out; have hcz12_0 : w10.cell? ⟨gb121, 0, none⟩ = some (.int .i64 0) := (kc_' BK121.out 0).trans rfl; have hcz12_1 : w10.cell? ⟨gb121, 1, none⟩ = some (.int .i64 0) := (kc_' BK121.out 1).trans rfl; have hcz12_2 : w10.cell? ⟨gb121, 2, none⟩ = some (.int .i64 0) := (kc_' BK121.out 2).trans rfl; have hcz12_3 : w10.cell? ⟨gb121, 3, none⟩ = some (.int .i64 0) := (kc_' BK121.out 3).trans rfl; have hfz12_0 := kf_' BK121.out 0; have hfz12_1 := kf_' BK121.out 1; have hfz12_2 := kf_' BK121.out 2; have hfz12_3 := kf_' BK121.out 3))
 refine bodyPost_ret (results_cell_row rfl _ _ gb121 26 #[.int .i64 (wrap64 (6 * t122)), .int .i64 (wrap64 (3 * (wrap64 (1 + t125)))), .int .i64 (wrap64 (55 + t128)), .int .i64 (wrap64 (1 + t131))] (0, 0) _ rfl (by (with_reducible repeat (first | refine kn_' ?_ _ | refine kd_' ?_ | refine ka_' ?_ _)); refine blk_put (cs := #[.int .i64 (wrap64 (6 * t122)), .int .i64 (wrap64 (3 * (wrap64 (1 + t125)))), .int .i64 (wrap64 (55 + t128)), .int .i64 0]) ?_ 3 _ rfl; (with_reducible repeat (first | refine kn_' ?_ _ | refine kd_' ?_ | refine ka_' ?_ _)); refine blk_put (cs := #[.int .i64 (wrap64 (6 * t122)), .int .i64 (wrap64 (3 * (wrap64 (1 + t125)))), .int .i64 0, .int .i64 0]) ?_ 2 _ rfl; (with_reducible repeat (first | refine kn_' ?_ _ | refine kd_' ?_ | refine ka_' ?_ _)); refine blk_put (cs := #[.int .i64 (wrap64 (6 * t122)), .int .i64 0, .int .i64 0, .int .i64 0]) ?_ 1 _ rfl; (with_reducible repeat (first | refine kn_' ?_ _ | refine kd_' ?_ | refine ka_' ?_ _)); refine blk_put (cs := #[.int .i64 0, .int .i64 0, .int .i64 0, .int .i64 0]) ?_ 0 _ rfl; (with_reducible repeat (first | refine kn_' ?_ _ | refine kd_' ?_ | refine ka_' ?_ _)); exact BK121.out) Try.underlying26 rfl (by kernel_rfl)) rfl ?_
 exact ⟨by first | rfl | (simp [errW_none, errW_some] <;> rfl) | (simp [*, errW_none, errW_some] <;> rfl), by repeat (first | (with_reducible first | exact HI0.out | apply IsS157.alloc | apply IsS157.drewN | apply IsS157.drew | apply IsS157.set_1 | apply IsS157.set_2 | refine IsS157.far ?_ NB0_121.out _) | exact HI0.out), by repeat (first | (with_reducible first | exact HB.out | apply pa_' | apply pn_' | apply pd_' | refine pt_' ?_ (IsS157.ge HI0.out) | refine pt_' ?_ GE121.out) | exact HB.out), by repeat (first | (with_reducible first | exact HK.out | apply KeepBut.set_ | apply keep_drewN | apply keep_drew | apply keep_alloc | refine keep_far ?_ GW121.out _) | exact HK.out)⟩
end Go.Proofs.Ytbhlmeghbfmgiaa.F

namespace Go.Proofs.Ytbhlmeghbfmgiaa.F
open Go.RowKit Go.Proofs.YtbhlmeghbfmgiaaW.PrintWords Go.Proofs.YtbhlmeghbfmgiaaW.PrintLast Go.Proofs.YtbhlmeghbfmgiaaW.PrintMore
attribute [local go_sem] max2_int min2_int max_two min_two max_three min_three max_four min_four
set_option linter.unusedVariables false
set_option linter.unusedSimpArgs false
def spec_l1In.f (a0 : Int) (a1 : Int) (a2 : Int) : Option (Bool) := if a0 ≥ a1 then (some (decide (a0 ≤ a2))) else (some false)
set_option maxHeartbeats 8000000 in
set_option maxRecDepth 100000 in
theorem spec_l1In.calls (a0 : Int) (a1 : Int) (a2 : Int) (r : Bool) (w : World) (h : spec_l1In.f a0 a1 a2 = some r) :
  Calls Try.prog 110 #[.int .i64 a0, .int .i64 a1, .int .i64 a2] w fun e w' => e = .returned (.bool r) ∧ Drawn0 w w' := by
 have H : (if a0 ≥ a1 then (some (decide (a0 ≤ a2))) else (some false)) = some r := h
 clear h
 by_cases c4 : a0 ≥ a1
 ·
  rw [if_pos c4] at H
  have c4b0 : decide (a1 ≤ a0) = true := decide_eq_true c4
  clear c4
  obtain rfl := Option.some.inj H
  go_enter Try.func110, Try.ntmps110
  go_wp2
  go_ret
  exact ⟨by first | rfl | (simp; done) | (simp [*]; done), by repeat (first | exact Drawn0.refl _ | apply Drawn0.step)⟩
 rw [if_neg c4] at H
 have c4b0 : decide (a1 ≤ a0) = false := decide_eq_false c4
 clear c4
 obtain rfl := Option.some.inj H
 go_enter Try.func110, Try.ntmps110
 go_wp2
 go_ret
 exact ⟨by first | rfl | (simp; done) | (simp [*]; done), by repeat (first | exact Drawn0.refl _ | apply Drawn0.step)⟩
end Go.Proofs.Ytbhlmeghbfmgiaa.F

namespace Go.Proofs.Ytbhlmeghbfmgiaa.F
open Go.RowKit Go.Proofs.YtbhlmeghbfmgiaaW.PrintWords Go.Proofs.YtbhlmeghbfmgiaaW.PrintLast Go.Proofs.YtbhlmeghbfmgiaaW.PrintMore
attribute [local go_sem] max2_int min2_int max_two min_two max_three min_three max_four min_four
set_option linter.unusedVariables false
set_option linter.unusedSimpArgs false
def spec_l8Ok.f (a0_0 : Int) (a0_1 : Int) (a0_2 : Int) (a0_3 : Int) : Option (Bool) := (spec_l1In.f a0_0 0 2000).bind fun t135 => (if t135 = true then ((spec_l1In.f a0_1 1 96).bind fun t136 => (if t136 = true then ((spec_l1In.f a0_2 21 108).bind fun t137 => (if t137 = true then ((spec_l1In.f a0_3 1 4).bind fun t138 => (some t138)) else (some false))) else (some false))) else (some false))
set_option maxHeartbeats 8000000 in
set_option maxRecDepth 100000 in
theorem spec_l8Ok.calls (a0_0 : Int) (a0_1 : Int) (a0_2 : Int) (a0_3 : Int) (r : Bool) (w : World) (h : spec_l8Ok.f a0_0 a0_1 a0_2 a0_3 = some r) :
  Calls Try.prog 141 #[.agg #[.int .i64 a0_0, .int .i64 a0_1, .int .i64 a0_2, .int .i64 a0_3]] w fun e w' => e = .returned (.bool r) ∧ Below w.heap.size w w' := by
 have hu26 := Try.underlying26
 have HB := sk_' (Below.refl w.heap.size w)
 have H : ((spec_l1In.f a0_0 0 2000).bind fun t135 => (if t135 = true then ((spec_l1In.f a0_1 1 96).bind fun t136 => (if t136 = true then ((spec_l1In.f a0_2 21 108).bind fun t137 => (if t137 = true then ((spec_l1In.f a0_3 1 4).bind fun t138 => (some t138)) else (some false))) else (some false))) else (some false))) = some r := h
 clear h
 replace H := bs_' H
 obtain ⟨t135, A20, H⟩ := H
 try dsimp only at H
 have A2 := sk_' A20
 clear A20
 by_cases c3 : t135 = true
 ·
  subst c3
  rw [if_pos rfl] at H
  replace H := bs_' H
  obtain ⟨t136, A40, H⟩ := H
  try dsimp only at H
  have A4 := sk_' A40
  clear A40
  by_cases c5 : t136 = true
  ·
   subst c5
   rw [if_pos rfl] at H
   replace H := bs_' H
   obtain ⟨t137, A60, H⟩ := H
   try dsimp only at H
   have A6 := sk_' A60
   clear A60
   by_cases c7 : t137 = true
   ·
    subst c7
    rw [if_pos rfl] at H
    replace H := bs_' H
    obtain ⟨t138, A80, H⟩ := H
    try dsimp only at H
    have A8 := sk_' A80
    clear A80
    obtain rfl := Option.some.inj H
    go_enter Try.func141, Try.ntmps141
    go_wp2_with (first | ((with_reducible refine gate_dst (N := 1) rfl ?_); refine box_event ?hg (N := 1) ?hd (cs := #[.int .i64 a0_0, .int .i64 a0_1, .int .i64 a0_2, .int .i64 a0_3]) (t := 26) ?hr ?_; (case hd => rfl); (case hg => rfl); (case hr => first | (go_simp; done) | (go_simp; rfl)); intro gb134 hg w9 hbox hb; have n0_ := sk_' (pp_' (by repeat (first | (with_reducible first | exact HB.out | apply pa_' | apply pn_' | apply pd_') | exact HB.out)) hb); have n1_ := sk_' (hbox); have n2_ := sk_' ((by rw [hg]; exact (ps_' (by repeat (first | (with_reducible first | exact HB.out | apply pa_' | apply pn_' | apply pd_') | exact HB.out))) : w.heap.size ≤ gb134)); have n3_ := sk_' ((by rw [hg]; exact (ps_' (by repeat (first | (with_reducible first | exact HB.out | apply pa_' | apply pn_' | apply pd_') | exact HB.out))) : w.heap.size ≤ gb134)); clear HB; have HB := n0_; have BK134 := n1_; have GW134 := n2_; have GE134 := n3_; clear n0_ n1_ n2_ n3_; clear hb hbox hg; have hcz10_0 : w9.cell? ⟨gb134, 0, none⟩ = some (.int .i64 a0_0) := (kc_' BK134.out 0).trans rfl; have hcz10_1 : w9.cell? ⟨gb134, 1, none⟩ = some (.int .i64 a0_1) := (kc_' BK134.out 1).trans rfl; have hcz10_2 : w9.cell? ⟨gb134, 2, none⟩ = some (.int .i64 a0_2) := (kc_' BK134.out 2).trans rfl; have hcz10_3 : w9.cell? ⟨gb134, 3, none⟩ = some (.int .i64 a0_3) := (kc_' BK134.out 3).trans rfl; have hfz10_0 := kf_' BK134.out 0; have hfz10_1 := kf_' BK134.out 1; have hfz10_2 := kf_' BK134.out 2; have hfz10_3 := kf_' BK134.out 3) | ((with_reducible refine xj_' (f := 110) rfl ?_); refine goesL_ (some 5) rfl rfl Try.func110 (by kernel_rfl) rfl #[.int .i64 a0_0, .int .i64 0, .int .i64 2000] rfl (by (try simp only [xm_', xc_', xn_']); first | done | rfl | (simp only [xd_', xt_']; rfl)) ?_; (with_reducible refine (spec_l1In.calls a0_0 0 2000 true _ A2.out).mono ?_); rintro e w' ⟨rfl, ⟨nd, rfl⟩⟩; refine ⟨_, rfl, ?_⟩) | (go_at_call 110; (with_reducible refine (spec_l1In.calls a0_1 1 96 true _ A4.out).mono ?_); rintro e w' ⟨rfl, ⟨nd, rfl⟩⟩) | (go_at_call 110; (with_reducible refine (spec_l1In.calls a0_2 21 108 true _ A6.out).mono ?_); rintro e w' ⟨rfl, ⟨nd, rfl⟩⟩) | (go_at_call 110; (with_reducible refine (spec_l1In.calls a0_3 1 4 t138 _ A8.out).mono ?_); rintro e w' ⟨rfl, ⟨nd, rfl⟩⟩))
    go_ret
    exact ⟨by first | rfl | (simp [errW_none, errW_some] <;> rfl) | (simp [*, errW_none, errW_some] <;> rfl), by repeat (first | (with_reducible first | exact HB.out | apply pa_' | apply pn_' | apply pd_' | refine pt_' ?_ GE134.out) | exact HB.out)⟩
   replace c7 := Bool.eq_false_iff.mpr c7
   subst c7
   rw [if_neg (show ¬ (false = true) by decide)] at H
   obtain rfl := Option.some.inj H
   go_enter Try.func141, Try.ntmps141
   go_wp2_with (first | ((with_reducible refine gate_dst (N := 1) rfl ?_); refine box_event ?hg (N := 1) ?hd (cs := #[.int .i64 a0_0, .int .i64 a0_1, .int .i64 a0_2, .int .i64 a0_3]) (t := 26) ?hr ?_; (case hd => rfl); (case hg => rfl); (case hr => first | (go_simp; done) | (go_simp; rfl)); intro gb134 hg w11 hbox hb; have n0_ := sk_' (pp_' (by repeat (first | (with_reducible first | exact HB.out | apply pa_' | apply pn_' | apply pd_') | exact HB.out)) hb); have n1_ := sk_' (hbox); have n2_ := sk_' ((by rw [hg]; exact (ps_' (by repeat (first | (with_reducible first | exact HB.out | apply pa_' | apply pn_' | apply pd_') | exact HB.out))) : w.heap.size ≤ gb134)); have n3_ := sk_' ((by rw [hg]; exact (ps_' (by repeat (first | (with_reducible first | exact HB.out | apply pa_' | apply pn_' | apply pd_') | exact HB.out))) : w.heap.size ≤ gb134)); clear HB; have HB := n0_; have BK134 := n1_; have GW134 := n2_; have GE134 := n3_; clear n0_ n1_ n2_ n3_; clear hb hbox hg; have hcz12_0 : w11.cell? ⟨gb134, 0, none⟩ = some (.int .i64 a0_0) := (kc_' BK134.out 0).trans rfl; have hcz12_1 : w11.cell? ⟨gb134, 1, none⟩ = some (.int .i64 a0_1) := (kc_' BK134.out 1).trans rfl; have hcz12_2 : w11.cell? ⟨gb134, 2, none⟩ = some (.int .i64 a0_2) := (kc_' BK134.out 2).trans rfl; have hcz12_3 : w11.cell? ⟨gb134, 3, none⟩ = some (.int .i64 a0_3) := (kc_' BK134.out 3).trans rfl; have hfz12_0 := kf_' BK134.out 0; have hfz12_1 := kf_' BK134.out 1; have hfz12_2 := kf_' BK134.out 2; have hfz12_3 := kf_' BK134.out 3) | ((with_reducible refine xj_' (f := 110) rfl ?_); refine goesL_ (some 5) rfl rfl Try.func110 (by kernel_rfl) rfl #[.int .i64 a0_0, .int .i64 0, .int .i64 2000] rfl (by (try simp only [xm_', xc_', xn_']); first | done | rfl | (simp only [xd_', xt_']; rfl)) ?_; (with_reducible refine (spec_l1In.calls a0_0 0 2000 true _ A2.out).mono ?_); rintro e w' ⟨rfl, ⟨nd, rfl⟩⟩; refine ⟨_, rfl, ?_⟩) | (go_at_call 110; (with_reducible refine (spec_l1In.calls a0_1 1 96 true _ A4.out).mono ?_); rintro e w' ⟨rfl, ⟨nd, rfl⟩⟩) | (go_at_call 110; (with_reducible refine (spec_l1In.calls a0_2 21 108 false _ A6.out).mono ?_); rintro e w' ⟨rfl, ⟨nd, rfl⟩⟩))
   go_ret
   exact ⟨by first | rfl | (simp [errW_none, errW_some] <;> rfl) | (simp [*, errW_none, errW_some] <;> rfl), by repeat (first | (with_reducible first | exact HB.out | apply pa_' | apply pn_' | apply pd_' | refine pt_' ?_ GE134.out) | exact HB.out)⟩
  replace c5 := Bool.eq_false_iff.mpr c5
  subst c5
  rw [if_neg (show ¬ (false = true) by decide)] at H
  obtain rfl := Option.some.inj H
  go_enter Try.func141, Try.ntmps141
  go_wp2_with (first | ((with_reducible refine gate_dst (N := 1) rfl ?_); refine box_event ?hg (N := 1) ?hd (cs := #[.int .i64 a0_0, .int .i64 a0_1, .int .i64 a0_2, .int .i64 a0_3]) (t := 26) ?hr ?_; (case hd => rfl); (case hg => rfl); (case hr => first | (go_simp; done) | (go_simp; rfl)); intro gb134 hg w13 hbox hb; have n0_ := sk_' (pp_' (by repeat (first | (with_reducible first | exact HB.out | apply pa_' | apply pn_' | apply pd_') | exact HB.out)) hb); have n1_ := sk_' (hbox); have n2_ := sk_' ((by rw [hg]; exact (ps_' (by repeat (first | (with_reducible first | exact HB.out | apply pa_' | apply pn_' | apply pd_') | exact HB.out))) : w.heap.size ≤ gb134)); have n3_ := sk_' ((by rw [hg]; exact (ps_' (by repeat (first | (with_reducible first | exact HB.out | apply pa_' | apply pn_' | apply pd_') | exact HB.out))) : w.heap.size ≤ gb134)); clear HB; have HB := n0_; have BK134 := n1_; have GW134 := n2_; have GE134 := n3_; clear n0_ n1_ n2_ n3_; clear hb hbox hg; have hcz14_0 : w13.cell? ⟨gb134, 0, none⟩ = some (.int .i64 a0_0) := (kc_' BK134.out 0).trans rfl; have hcz14_1 : w13.cell? ⟨gb134, 1, none⟩ = some (.int .i64 a0_1) := (kc_' BK134.out 1).trans rfl; have hcz14_2 : w13.cell? ⟨gb134, 2, none⟩ = some (.int .i64 a0_2) := (kc_' BK134.out 2).trans rfl; have hcz14_3 : w13.cell? ⟨gb134, 3, none⟩ = some (.int .i64 a0_3) := (kc_' BK134.out 3).trans rfl; have hfz14_0 := kf_' BK134.out 0; have hfz14_1 := kf_' BK134.out 1; have hfz14_2 := kf_' BK134.out 2; have hfz14_3 := kf_' BK134.out 3) | ((with_reducible refine xj_' (f := 110) rfl ?_); refine goesL_ (some 5) rfl rfl Try.func110 (by kernel_rfl) rfl #[.int .i64 a0_0, .int .i64 0, .int .i64 2000] rfl (by (try simp only [xm_', xc_', xn_']); first | done | rfl | (simp only [xd_', xt_']; rfl)) ?_; (with_reducible refine (spec_l1In.calls a0_0 0 2000 true _ A2.out).mono ?_); rintro e w' ⟨rfl, ⟨nd, rfl⟩⟩; refine ⟨_, rfl, ?_⟩) | (go_at_call 110; (with_reducible refine (spec_l1In.calls a0_1 1 96 false _ A4.out).mono ?_); rintro e w' ⟨rfl, ⟨nd, rfl⟩⟩))
  go_ret
  exact ⟨by first | rfl | (simp [errW_none, errW_some] <;> rfl) | (simp [*, errW_none, errW_some] <;> rfl), by repeat (first | (with_reducible first | exact HB.out | apply pa_' | apply pn_' | apply pd_' | refine pt_' ?_ GE134.out) | exact HB.out)⟩
 replace c3 := Bool.eq_false_iff.mpr c3
 subst c3
 rw [if_neg (show ¬ (false = true) by decide)] at H
 obtain rfl := Option.some.inj H
 go_enter Try.func141, Try.ntmps141
 go_wp2_with (first | ((with_reducible refine gate_dst (N := 1) rfl ?_); refine box_event ?hg (N := 1) ?hd (cs := #[.int .i64 a0_0, .int .i64 a0_1, .int .i64 a0_2, .int .i64 a0_3]) (t := 26) ?hr ?_; (case hd => rfl); (case hg => rfl); (case hr => first | (go_simp; done) | (go_simp; rfl)); intro gb134 hg w15 hbox hb; have n0_ := sk_' (pp_' (by repeat (first | (with_reducible first | exact HB.out | apply pa_' | apply pn_' | apply pd_') | exact HB.out)) hb); have n1_ := sk_' (hbox); have n2_ := sk_' ((by rw [hg]; exact (ps_' (by repeat (first | (with_reducible first | exact HB.out | apply pa_' | apply pn_' | apply pd_') | exact HB.out))) : w.heap.size ≤ gb134)); have n3_ := sk_' ((by rw [hg]; exact (ps_' (by repeat (first | (with_reducible first | exact HB.out | apply pa_' | apply pn_' | apply pd_') | exact HB.out))) : w.heap.size ≤ gb134)); clear HB; have HB := n0_; have BK134 := n1_; have GW134 := n2_; have GE134 := n3_; clear n0_ n1_ n2_ n3_; clear hb hbox hg; have hcz16_0 : w15.cell? ⟨gb134, 0, none⟩ = some (.int .i64 a0_0) := (kc_' BK134.out 0).trans rfl; have hcz16_1 : w15.cell? ⟨gb134, 1, none⟩ = some (.int .i64 a0_1) := (kc_' BK134.out 1).trans rfl; have hcz16_2 : w15.cell? ⟨gb134, 2, none⟩ = some (.int .i64 a0_2) := (kc_' BK134.out 2).trans rfl; have hcz16_3 : w15.cell? ⟨gb134, 3, none⟩ = some (.int .i64 a0_3) := (kc_' BK134.out 3).trans rfl; have hfz16_0 := kf_' BK134.out 0; have hfz16_1 := kf_' BK134.out 1; have hfz16_2 := kf_' BK134.out 2; have hfz16_3 := kf_' BK134.out 3) | ((with_reducible refine xj_' (f := 110) rfl ?_); refine goesL_ (some 5) rfl rfl Try.func110 (by kernel_rfl) rfl #[.int .i64 a0_0, .int .i64 0, .int .i64 2000] rfl (by (try simp only [xm_', xc_', xn_']); first | done | rfl | (simp only [xd_', xt_']; rfl)) ?_; (with_reducible refine (spec_l1In.calls a0_0 0 2000 false _ A2.out).mono ?_); rintro e w' ⟨rfl, ⟨nd, rfl⟩⟩; refine ⟨_, rfl, ?_⟩))
 go_ret
 exact ⟨by first | rfl | (simp [errW_none, errW_some] <;> rfl) | (simp [*, errW_none, errW_some] <;> rfl), by repeat (first | (with_reducible first | exact HB.out | apply pa_' | apply pn_' | apply pd_' | refine pt_' ?_ GE134.out) | exact HB.out)⟩
end Go.Proofs.Ytbhlmeghbfmgiaa.F

namespace Go.Proofs.Ytbhlmeghbfmgiaa.F
open Go.RowKit Go.Proofs.YtbhlmeghbfmgiaaW.PrintWords Go.Proofs.YtbhlmeghbfmgiaaW.PrintLast Go.Proofs.YtbhlmeghbfmgiaaW.PrintMore
attribute [local go_sem] max2_int min2_int max_two min_two max_three min_three max_four min_four
set_option linter.unusedVariables false
set_option linter.unusedSimpArgs false
def spec_l8Before.f (a0_0 : Int) (a0_1 : Int) (a0_2 : Int) (a0_3 : Int) (a1_0 : Int) (a1_1 : Int) (a1_2 : Int) (a1_3 : Int) : Option (Bool) := if a0_0 = a1_0 then (if a0_3 = a1_3 then (some (decide (a0_2 < a1_2))) else (some (decide (a0_3 < a1_3)))) else (some (decide (a0_0 < a1_0)))
set_option maxHeartbeats 8000000 in
set_option maxRecDepth 100000 in
theorem spec_l8Before.calls (a0_0 : Int) (a0_1 : Int) (a0_2 : Int) (a0_3 : Int) (a1_0 : Int) (a1_1 : Int) (a1_2 : Int) (a1_3 : Int) (r : Bool) (w : World) (h : spec_l8Before.f a0_0 a0_1 a0_2 a0_3 a1_0 a1_1 a1_2 a1_3 = some r) :
  Calls Try.prog 142 #[.agg #[.int .i64 a0_0, .int .i64 a0_1, .int .i64 a0_2, .int .i64 a0_3], .agg #[.int .i64 a1_0, .int .i64 a1_1, .int .i64 a1_2, .int .i64 a1_3]] w fun e w' => e = .returned (.bool r) ∧ Below w.heap.size w w' := by
 have hu26 := Try.underlying26
 have HB := sk_' (Below.refl w.heap.size w)
 have H : (if a0_0 = a1_0 then (if a0_3 = a1_3 then (some (decide (a0_2 < a1_2))) else (some (decide (a0_3 < a1_3)))) else (some (decide (a0_0 < a1_0)))) = some r := h
 clear h
 by_cases c3 : a0_0 = a1_0
 ·
  rw [if_pos c3] at H
  have c3b0 : (a0_0 == a1_0) = true := beq_iff_eq.mpr c3
  have c3b1 : (a0_0 != a1_0) = false := bne_eq_false_iff_eq.mpr c3
  clear c3
  by_cases c4 : a0_3 = a1_3
  ·
   rw [if_pos c4] at H
   have c4b0 : (a0_3 == a1_3) = true := beq_iff_eq.mpr c4
   have c4b1 : (a0_3 != a1_3) = false := bne_eq_false_iff_eq.mpr c4
   clear c4
   obtain rfl := Option.some.inj H
   go_enter Try.func142, Try.ntmps142
   go_wp2_with (first | ((with_reducible refine gate_dst (N := 2) rfl ?_); refine box_event ?hg (N := 2) ?hd (cs := #[.int .i64 a0_0, .int .i64 a0_1, .int .i64 a0_2, .int .i64 a0_3]) (t := 26) ?hr ?_; (case hd => rfl); (case hg => rfl); (case hr => first | (go_simp; done) | (go_simp; rfl)); intro gb139 hg w5 hbox hb; have n0_ := sk_' (pp_' (by repeat (first | (with_reducible first | exact HB.out | apply pa_' | apply pn_' | apply pd_') | exact HB.out)) hb); have n1_ := sk_' (hbox); have n2_ := sk_' ((by rw [hg]; exact (ps_' (by repeat (first | (with_reducible first | exact HB.out | apply pa_' | apply pn_' | apply pd_') | exact HB.out))) : w.heap.size ≤ gb139)); have n3_ := sk_' ((by rw [hg]; exact (ps_' (by repeat (first | (with_reducible first | exact HB.out | apply pa_' | apply pn_' | apply pd_') | exact HB.out))) : w.heap.size ≤ gb139)); clear HB; have HB := n0_; have BK139 := n1_; have GW139 := n2_; have GE139 := n3_; clear n0_ n1_ n2_ n3_; clear hb hbox hg) | ((with_reducible refine gate_dst (N := 3) rfl ?_); refine box_event ?hg (N := 3) ?hd (cs := #[.int .i64 a1_0, .int .i64 a1_1, .int .i64 a1_2, .int .i64 a1_3]) (t := 26) ?hr ?_; (case hd => rfl); (case hg => rfl); (case hr => first | (go_simp; done) | (go_simp; rfl)); intro gb140 hg w6 hbox hb; have n0_ := sk_' (blk_below (g := gb139) (o := .cells #[.int .i64 a0_0, .int .i64 a0_1, .int .i64 a0_2, .int .i64 a0_3] 26 (0, 0)) (by (with_reducible repeat (first | refine kn_' ?_ _ | refine kd_' ?_ | refine ka_' ?_ _)); exact BK139.out) hb); have n1_ := sk_' (pp_' (by repeat (first | (with_reducible first | exact HB.out | apply pa_' | apply pn_' | apply pd_' | refine pt_' ?_ GE139.out) | exact HB.out)) hb); have n2_ := sk_' (hbox); have n3_ := sk_' ((by rw [hg]; exact (ps_' (by repeat (first | (with_reducible first | exact HB.out | apply pa_' | apply pn_' | apply pd_' | refine pt_' ?_ GE139.out) | exact HB.out))) : w.heap.size ≤ gb140)); have n4_ := sk_' ((by rw [hg]; exact (ps_' (by repeat (first | (with_reducible first | exact HB.out | apply pa_' | apply pn_' | apply pd_' | refine pt_' ?_ GE139.out) | exact HB.out))) : w.heap.size ≤ gb140)); have n5_ := sk_' ((by rw [hg]; exact Nat.ne_of_lt (blk_lt (g := gb139) (o := .cells #[.int .i64 a0_0, .int .i64 a0_1, .int .i64 a0_2, .int .i64 a0_3] 26 (0, 0)) (by (with_reducible repeat (first | refine kn_' ?_ _ | refine kd_' ?_ | refine ka_' ?_ _)); exact BK139.out)) : gb139 ≠ gb140)); have n6_ := sk_' ((by rw [hg]; exact Nat.ne_of_gt (blk_lt (g := gb139) (o := .cells #[.int .i64 a0_0, .int .i64 a0_1, .int .i64 a0_2, .int .i64 a0_3] 26 (0, 0)) (by (with_reducible repeat (first | refine kn_' ?_ _ | refine kd_' ?_ | refine ka_' ?_ _)); exact BK139.out)) : gb140 ≠ gb139)); clear BK139; clear HB; have BK139 := n0_; have HB := n1_; have BK140 := n2_; have GW140 := n3_; have GE140 := n4_; have NB139_140 := n5_; have NB140_139 := n6_; clear n0_ n1_ n2_ n3_ n4_ n5_ n6_; clear hb hbox hg; have hnb7 := NB139_140.out; have hnc7 := NB140_139.out; have hcz8_0 : w6.cell? ⟨gb139, 0, none⟩ = some (.int .i64 a0_0) := (kc_' BK139.out 0).trans rfl; have hcz8_1 : w6.cell? ⟨gb139, 1, none⟩ = some (.int .i64 a0_1) := (kc_' BK139.out 1).trans rfl; have hcz8_2 : w6.cell? ⟨gb139, 2, none⟩ = some (.int .i64 a0_2) := (kc_' BK139.out 2).trans rfl; have hcz8_3 : w6.cell? ⟨gb139, 3, none⟩ = some (.int .i64 a0_3) := (kc_' BK139.out 3).trans rfl; have hfz8_0 := kf_' BK139.out 0; have hfz8_1 := kf_' BK139.out 1; have hfz8_2 := kf_' BK139.out 2; have hfz8_3 := kf_' BK139.out 3; have hcz9_0 : w6.cell? ⟨gb140, 0, none⟩ = some (.int .i64 a1_0) := (kc_' BK140.out 0).trans rfl; have hcz9_1 : w6.cell? ⟨gb140, 1, none⟩ = some (.int .i64 a1_1) := (kc_' BK140.out 1).trans rfl; have hcz9_2 : w6.cell? ⟨gb140, 2, none⟩ = some (.int .i64 a1_2) := (kc_' BK140.out 2).trans rfl; have hcz9_3 : w6.cell? ⟨gb140, 3, none⟩ = some (.int .i64 a1_3) := (kc_' BK140.out 3).trans rfl; have hfz9_0 := kf_' BK140.out 0; have hfz9_1 := kf_' BK140.out 1; have hfz9_2 := kf_' BK140.out 2; have hfz9_3 := kf_' BK140.out 3))
   go_ret
   exact ⟨by first | rfl | (simp [errW_none, errW_some] <;> rfl) | (simp [*, errW_none, errW_some] <;> rfl), by repeat (first | (with_reducible first | exact HB.out | apply pa_' | apply pn_' | apply pd_' | refine pt_' ?_ GE139.out | refine pt_' ?_ GE140.out) | exact HB.out)⟩
  rw [if_neg c4] at H
  have c4b0 : (a0_3 == a1_3) = false := beq_eq_false_iff_ne.mpr c4
  have c4b1 : (a0_3 != a1_3) = true := bne_iff_ne.mpr c4
  obtain rfl := Option.some.inj H
  go_enter Try.func142, Try.ntmps142
  go_wp2_with (first | ((with_reducible refine gate_dst (N := 2) rfl ?_); refine box_event ?hg (N := 2) ?hd (cs := #[.int .i64 a0_0, .int .i64 a0_1, .int .i64 a0_2, .int .i64 a0_3]) (t := 26) ?hr ?_; (case hd => rfl); (case hg => rfl); (case hr => first | (go_simp; done) | (go_simp; rfl)); intro gb139 hg w10 hbox hb; have n0_ := sk_' (pp_' (by repeat (first | (with_reducible first | exact HB.out | apply pa_' | apply pn_' | apply pd_') | exact HB.out)) hb); have n1_ := sk_' (hbox); have n2_ := sk_' ((by rw [hg]; exact (ps_' (by repeat (first | (with_reducible first | exact HB.out | apply pa_' | apply pn_' | apply pd_') | exact HB.out))) : w.heap.size ≤ gb139)); have n3_ := sk_' ((by rw [hg]; exact (ps_' (by repeat (first | (with_reducible first | exact HB.out | apply pa_' | apply pn_' | apply pd_') | exact HB.out))) : w.heap.size ≤ gb139)); clear HB; have HB := n0_; have BK139 := n1_; have GW139 := n2_; have GE139 := n3_; clear n0_ n1_ n2_ n3_; clear hb hbox hg) | ((with_reducible refine gate_dst (N := 3) rfl ?_); refine box_event ?hg (N := 3) ?hd (cs := #[.int .i64 a1_0, .int .i64 a1_1, .int .i64 a1_2, .int .i64 a1_3]) (t := 26) ?hr ?_; (case hd => rfl); (case hg => rfl); (case hr => first | (go_simp; done) | (go_simp; rfl)); intro gb140 hg w11 hbox hb; have n0_ := sk_' (blk_below (g := gb139) (o := .cells #[.int .i64 a0_0, .int .i64 a0_1, .int .i64 a0_2, .int .i64 a0_3] 26 (0, 0)) (by (with_reducible repeat (first | refine kn_' ?_ _ | refine kd_' ?_ | refine ka_' ?_ _)); exact BK139.out) hb); have n1_ := sk_' (pp_' (by repeat (first | (with_reducible first | exact HB.out | apply pa_' | apply pn_' | apply pd_' | refine pt_' ?_ GE139.out) | exact HB.out)) hb); have n2_ := sk_' (hbox); have n3_ := sk_' ((by rw [hg]; exact (ps_' (by repeat (first | (with_reducible first | exact HB.out | apply pa_' | apply pn_' | apply pd_' | refine pt_' ?_ GE139.out) | exact HB.out))) : w.heap.size ≤ gb140)); have n4_ := sk_' ((by rw [hg]; exact (ps_' (by repeat (first | (with_reducible first | exact HB.out | apply pa_' | apply pn_' | apply pd_' | refine pt_' ?_ GE139.out) | exact HB.out))) : w.heap.size ≤ gb140)); have n5_ := sk_' ((by rw [hg]; exact Nat.ne_of_lt (blk_lt (g := gb139) (o := .cells #[.int .i64 a0_0, .int .i64 a0_1, .int .i64 a0_2, .int .i64 a0_3] 26 (0, 0)) (by (with_reducible repeat (first | refine kn_' ?_ _ | refine kd_' ?_ | refine ka_' ?_ _)); exact BK139.out)) : gb139 ≠ gb140)); have n6_ := sk_' ((by rw [hg]; exact Nat.ne_of_gt (blk_lt (g := gb139) (o := .cells #[.int .i64 a0_0, .int .i64 a0_1, .int .i64 a0_2, .int .i64 a0_3] 26 (0, 0)) (by (with_reducible repeat (first | refine kn_' ?_ _ | refine kd_' ?_ | refine ka_' ?_ _)); exact BK139.out)) : gb140 ≠ gb139)); clear BK139; clear HB; have BK139 := n0_; have HB := n1_; have BK140 := n2_; have GW140 := n3_; have GE140 := n4_; have NB139_140 := n5_; have NB140_139 := n6_; clear n0_ n1_ n2_ n3_ n4_ n5_ n6_; clear hb hbox hg; have hnb12 := NB139_140.out; have hnc12 := NB140_139.out; have hcz13_0 : w11.cell? ⟨gb139, 0, none⟩ = some (.int .i64 a0_0) := (kc_' BK139.out 0).trans rfl; have hcz13_1 : w11.cell? ⟨gb139, 1, none⟩ = some (.int .i64 a0_1) := (kc_' BK139.out 1).trans rfl; have hcz13_2 : w11.cell? ⟨gb139, 2, none⟩ = some (.int .i64 a0_2) := (kc_' BK139.out 2).trans rfl; have hcz13_3 : w11.cell? ⟨gb139, 3, none⟩ = some (.int .i64 a0_3) := (kc_' BK139.out 3).trans rfl; have hfz13_0 := kf_' BK139.out 0; have hfz13_1 := kf_' BK139.out 1; have hfz13_2 := kf_' BK139.out 2; have hfz13_3 := kf_' BK139.out 3; have hcz14_0 : w11.cell? ⟨gb140, 0, none⟩ = some (.int .i64 a1_0) := (kc_' BK140.out 0).trans rfl; have hcz14_1 : w11.cell? ⟨gb140, 1, none⟩ = some (.int .i64 a1_1) := (kc_' BK140.out 1).trans rfl; have hcz14_2 : w11.cell? ⟨gb140, 2, none⟩ = some (.int .i64 a1_2) := (kc_' BK140.out 2).trans rfl; have hcz14_3 : w11.cell? ⟨gb140, 3, none⟩ = some (.int .i64 a1_3) := (kc_' BK140.out 3).trans rfl; have hfz14_0 := kf_' BK140.out 0; have hfz14_1 := kf_' BK140.out 1; have hfz14_2 := kf_' BK140.out 2; have hfz14_3 := kf_' BK140.out 3))
  go_ret
  exact ⟨by first | rfl | (simp [errW_none, errW_some] <;> rfl) | (simp [*, errW_none, errW_some] <;> rfl), by repeat (first | (with_reducible first | exact HB.out | apply pa_' | apply pn_' | apply pd_' | refine pt_' ?_ GE139.out | refine pt_' ?_ GE140.out) | exact HB.out)⟩
 rw [if_neg c3] at H
 have c3b0 : (a0_0 == a1_0) = false := beq_eq_false_iff_ne.mpr c3
 have c3b1 : (a0_0 != a1_0) = true := bne_iff_ne.mpr c3
 obtain rfl := Option.some.inj H
 go_enter Try.func142, Try.ntmps142
 go_wp2_with (first | ((with_reducible refine gate_dst (N := 2) rfl ?_); refine box_event ?hg (N := 2) ?hd (cs := #[.int .i64 a0_0, .int .i64 a0_1, .int .i64 a0_2, .int .i64 a0_3]) (t := 26) ?hr ?_; (case hd => rfl); (case hg => rfl); (case hr => first | (go_simp; done) | (go_simp; rfl)); intro gb139 hg w15 hbox hb; have n0_ := sk_' (pp_' (by repeat (first | (with_reducible first | exact HB.out | apply pa_' | apply pn_' | apply pd_') | exact HB.out)) hb); have n1_ := sk_' (hbox); have n2_ := sk_' ((by rw [hg]; exact (ps_' (by repeat (first | (with_reducible first | exact HB.out | apply pa_' | apply pn_' | apply pd_') | exact HB.out))) : w.heap.size ≤ gb139)); have n3_ := sk_' ((by rw [hg]; exact (ps_' (by repeat (first | (with_reducible first | exact HB.out | apply pa_' | apply pn_' | apply pd_') | exact HB.out))) : w.heap.size ≤ gb139)); clear HB; have HB := n0_; have BK139 := n1_; have GW139 := n2_; have GE139 := n3_; clear n0_ n1_ n2_ n3_; clear hb hbox hg) | ((with_reducible refine gate_dst (N := 3) rfl ?_); refine box_event ?hg (N := 3) ?hd (cs := #[.int .i64 a1_0, .int .i64 a1_1, .int .i64 a1_2, .int .i64 a1_3]) (t := 26) ?hr ?_; (case hd => rfl); (case hg => rfl); (case hr => first | (go_simp; done) | (go_simp; rfl)); intro gb140 hg w16 hbox hb; have n0_ := sk_' (blk_below (g := gb139) (o := .cells #[.int .i64 a0_0, .int .i64 a0_1, .int .i64 a0_2, .int .i64 a0_3] 26 (0, 0)) (by (with_reducible repeat (first | refine kn_' ?_ _ | refine kd_' ?_ | refine ka_' ?_ _)); exact BK139.out) hb); have n1_ := sk_' (pp_' (by repeat (first | (with_reducible first | exact HB.out | apply pa_' | apply pn_' | apply pd_' | refine pt_' ?_ GE139.out) | exact HB.out)) hb); have n2_ := sk_' (hbox); have n3_ := sk_' ((by rw [hg]; exact (ps_' (by repeat (first | (with_reducible first | exact HB.out | apply pa_' | apply pn_' | apply pd_' | refine pt_' ?_ GE139.out) | exact HB.out))) : w.heap.size ≤ gb140)); have n4_ := sk_' ((by rw [hg]; exact (ps_' (by repeat (first | (with_reducible first | exact HB.out | apply pa_' | apply pn_' | apply pd_' | refine pt_' ?_ GE139.out) | exact HB.out))) : w.heap.size ≤ gb140)); have n5_ := sk_' ((by rw [hg]; exact Nat.ne_of_lt (blk_lt (g := gb139) (o := .cells #[.int .i64 a0_0, .int .i64 a0_1, .int .i64 a0_2, .int .i64 a0_3] 26 (0, 0)) (by (with_reducible repeat (first | refine kn_' ?_ _ | refine kd_' ?_ | refine ka_' ?_ _)); exact BK139.out)) : gb139 ≠ gb140)); have n6_ := sk_' ((by rw [hg]; exact Nat.ne_of_gt (blk_lt (g := gb139) (o := .cells #[.int .i64 a0_0, .int .i64 a0_1, .int .i64 a0_2, .int .i64 a0_3] 26 (0, 0)) (by (with_reducible repeat (first | refine kn_' ?_ _ | refine kd_' ?_ | refine ka_' ?_ _)); exact BK139.out)) : gb140 ≠ gb139)); clear BK139; clear HB; have BK139 := n0_; have HB := n1_; have BK140 := n2_; have GW140 := n3_; have GE140 := n4_; have NB139_140 := n5_; have NB140_139 := n6_; clear n0_ n1_ n2_ n3_ n4_ n5_ n6_; clear hb hbox hg; have hnb17 := NB139_140.out; have hnc17 := NB140_139.out; have hcz18_0 : w16.cell? ⟨gb139, 0, none⟩ = some (.int .i64 a0_0) := (kc_' BK139.out 0).trans rfl; have hcz18_1 : w16.cell? ⟨gb139, 1, none⟩ = some (.int .i64 a0_1) := (kc_' BK139.out 1).trans rfl; have hcz18_2 : w16.cell? ⟨gb139, 2, none⟩ = some (.int .i64 a0_2) := (kc_' BK139.out 2).trans rfl; have hcz18_3 : w16.cell? ⟨gb139, 3, none⟩ = some (.int .i64 a0_3) := (kc_' BK139.out 3).trans rfl; have hfz18_0 := kf_' BK139.out 0; have hfz18_1 := kf_' BK139.out 1; have hfz18_2 := kf_' BK139.out 2; have hfz18_3 := kf_' BK139.out 3; have hcz19_0 : w16.cell? ⟨gb140, 0, none⟩ = some (.int .i64 a1_0) := (kc_' BK140.out 0).trans rfl; have hcz19_1 : w16.cell? ⟨gb140, 1, none⟩ = some (.int .i64 a1_1) := (kc_' BK140.out 1).trans rfl; have hcz19_2 : w16.cell? ⟨gb140, 2, none⟩ = some (.int .i64 a1_2) := (kc_' BK140.out 2).trans rfl; have hcz19_3 : w16.cell? ⟨gb140, 3, none⟩ = some (.int .i64 a1_3) := (kc_' BK140.out 3).trans rfl; have hfz19_0 := kf_' BK140.out 0; have hfz19_1 := kf_' BK140.out 1; have hfz19_2 := kf_' BK140.out 2; have hfz19_3 := kf_' BK140.out 3))
 go_ret
 exact ⟨by first | rfl | (simp [errW_none, errW_some] <;> rfl) | (simp [*, errW_none, errW_some] <;> rfl), by repeat (first | (with_reducible first | exact HB.out | apply pa_' | apply pn_' | apply pd_' | refine pt_' ?_ GE139.out | refine pt_' ?_ GE140.out) | exact HB.out)⟩
end Go.Proofs.Ytbhlmeghbfmgiaa.F

namespace Go.Proofs.Ytbhlmeghbfmgiaa.F
open Go.RowKit Go.Proofs.YtbhlmeghbfmgiaaW.PrintWords Go.Proofs.YtbhlmeghbfmgiaaW.PrintLast Go.Proofs.YtbhlmeghbfmgiaaW.PrintMore
attribute [local go_sem] max2_int min2_int max_two min_two max_three min_three max_four min_four
set_option linter.unusedVariables false
set_option linter.unusedSimpArgs false
def spec_IsScore.l0 : Nat → List (S26) → Int → Option (Bool)
 | 0, _, _ => none
 | k + 1, x0, x3 => if x3 < (x0.length : Int) then (if 0 ≤ x3 then ((spec_l8Ok.f ((rd_T26 x0 x3).f0) ((rd_T26 x0 x3).f1) ((rd_T26 x0 x3).f2) ((rd_T26 x0 x3).f3)).bind fun t142 => (if t142 = true then (if x3 > 0 then (if 0 ≤ (wrap64 (x3 - 1)) then (if (wrap64 (x3 - 1)) < (x0.length : Int) then ((spec_l8Before.f ((rd_T26 x0 (wrap64 (x3 - 1))).f0) ((rd_T26 x0 (wrap64 (x3 - 1))).f1) ((rd_T26 x0 (wrap64 (x3 - 1))).f2) ((rd_T26 x0 (wrap64 (x3 - 1))).f3) ((rd_T26 x0 x3).f0) ((rd_T26 x0 x3).f1) ((rd_T26 x0 x3).f2) ((rd_T26 x0 x3).f3)).bind fun t145 => (if t145 = true then (spec_IsScore.l0 k x0 (wrap64 (x3 + 1))) else (some false))) else (none)) else (none)) else (spec_IsScore.l0 k x0 (wrap64 (x3 + 1)))) else (some false))) else (none)) else (some (decide ((x0.length : Int) ≤ 40)))
def spec_IsScore.f (k : Nat) (l0 : List (S26)) : Option (Bool) := spec_IsScore.l0 k l0 0
def spec_IsScore.T4 : Bool × List (List Nat × List Nat) := (true, [([], []), ([], []), ([0, 1], [0, 1]), ([2], [2]), ([3], [3]), ([4], [4]), ([5, 4], [5]), ([6], [6]), ([7, 6], [6, 7]), ([8, 6, 6], [6, 8]), ([9], [9]), ([9], [9]), ([11, 9], [9, 11]), ([10, 12, 9], [9, 10, 12]), ([13, 9], [9, 13]), ([9], [9]), ([9], [9]), ([15, 16, 9], [9, 15, 16]), ([17, 9], [9, 17]), ([14, 18, 9, 9], [9, 14, 18]), ([19, 9], [9, 19]), ([9, 20, 6], [6, 9, 20]), ([6, 21], [6, 21])])
def spec_IsScore.B4 : List Nat := [0, 0, 3, 7, 15, 31, 63, 127, 255, 511, 1023, 1023, 3071, 8191, 16383, 1023, 1023, 99327, 230399, 524287, 1048575, 2097151, 4194303]
theorem spec_IsScore.tab4 : rtab .any (opsOf Try.f97 4) = spec_IsScore.T4 := by kernel_rfl
theorem spec_IsScore.bits4 : waitsOk spec_IsScore.T4.2 spec_IsScore.B4 = true := by kernel_rfl
set_option maxHeartbeats 8000000 in
set_option maxRecDepth 100000 in
theorem spec_IsScore.calls (k : Nat) (A0 : Option Addr) (c0 : Nat) (l0 : List (S26)) (r : Bool) (w : World) (hr0 : Kd.C k26 w A0 l0.length l0) (hc0 : l0.length ≤ c0) (h : spec_IsScore.f k l0 = some r) :
  Calls Try.prog 97 #[.slice A0 l0.length c0] w fun e w' => e = .returned (.bool r) ∧ Below w.heap.size w w' := by
 have HR0 := sk_' hr0
 have HC0 := sk_' hc0
 clear hr0 hc0
 have F := sk_' (Fr.of (Below.refl w.heap.size w))
 have H := h
 clear h
 unfold spec_IsScore.f at H
 have HA := sk_' H
 clear H
 go_enter Try.func97, Try.ntmps97
 go_wp2
 go_loopg [3] k (fun kq vx w' => ∃ (x : Int), vx = .int .i64 x ∧ Aside0 (spec_IsScore.l0 kq l0 x = some r) ∧ Aside0 (Fr w w' []))
 case atStart => exact ⟨0, (by first | rfl | (simp; done) | (simp [*]; done)), HA, F⟩
 case round =>
  clear HA F
  obtain ⟨x, rfl, HA, F⟩ := hrel
  cases gk with
  | zero => exact absurd HA.out (by simp [spec_IsScore.l0])
  | succ k2 =>
   have H := HA.out
   clear HA
   simp only [spec_IsScore.l0] at H
   by_cases c1 : x < (l0.length : Int)
   ·
    rw [if_pos c1] at H
    by_cases c2 : 0 ≤ x
    ·
     rw [if_pos c2] at H
     obtain ⟨ad, e, hx0, hx1, hx2, hx3⟩ := at_T26 HR0.out x c2 c1
     cases e
     have X0 := sk_' hx0
     clear hx0
     generalize (rd_T26 l0 x).f0 = p0 at H X0
     have X1 := sk_' hx1
     clear hx1
     generalize (rd_T26 l0 x).f1 = p1 at H X1
     have X2 := sk_' hx2
     clear hx2
     generalize (rd_T26 l0 x).f2 = p2 at H X2
     have X3 := sk_' hx3
     clear hx3
     generalize (rd_T26 l0 x).f3 = p3 at H X3
     have cb1 : decide (x < (l0.length : Int)) = true := decide_eq_true c1
     replace c1 := eq_true c1
     have c2t := eq_true c2
     go_wp2
     replace H := bs_' H
     obtain ⟨t2, B_, H⟩ := H
     have A2 := sk_' B_
     clear B_
     cases t2 with
     | false =>
      simp only [Bool.false_eq_true, if_false] at H
      refine BelowW.region (by kernel_rfl) (by kernel_rfl) ?_
      have F1 := sk_' F.out.drew
      clear F
      have F := F1
      clear F1
      have hx0 := (F.out.below.cell (bq_' w _ X0.out)).trans X0.out
      have hx1 := (F.out.below.cell (bq_' w _ X1.out)).trans X1.out
      have hx2 := (F.out.below.cell (bq_' w _ X2.out)).trans X2.out
      have hx3 := (F.out.below.cell (bq_' w _ X3.out)).trans X3.out
      generalize wr.drew = w5 at F hx0 hx1 hx2 hx3 ⊢
      replace hx0 := BelowW.at hx0
      replace hx1 := BelowW.at hx1
      replace hx2 := BelowW.at hx2
      replace hx3 := BelowW.at hx3
      change wpQuiet _ _ _ _ (List.cons _ _) _
      repeat (go_big_quiet_step (first | (go_at_call 141; (with_reducible refine (spec_l8Ok.calls p0 p1 p2 p3 false _ A2.out).mono ?_); exact fun _ _ h_ => ⟨h_.1, BelowW.step _ h_.2⟩)))
      refine wpQuiet_nil ?_
      intro w6 hb
      try simp only [i64_w, i32_w]
      clear hx0 hx1 hx2 hx3
      have F1 := sk_' (F.out.step hb)
      clear F hb
      have F := F1
      clear F1
      obtain rfl := Option.some.inj H
      go_wp2
      go_ret
      exact ⟨rfl, F.out.below⟩
     | true =>
      simp only [if_true] at H
      by_cases d3 : x > 0
      ·
       rw [if_pos d3] at H
       have d3b : decide (0 < x) = true := decide_eq_true d3
       clear d3
       obtain ⟨ji, hji⟩ : ∃ j_ : Int, wrap64 (x - 1) = j_ := ⟨_, rfl⟩
       have hjw : IntKind.i64.wrap (x - 1) = ji := (i64_w _).trans hji
       rw [hji] at H
       by_cases e1 : 0 ≤ ji
       ·
        rw [if_pos e1] at H
        by_cases e2 : ji < (l0.length : Int)
        ·
         rw [if_pos e2] at H
         obtain ⟨ad2, e, hy0, hy1, hy2, hy3⟩ := at_T26 HR0.out ji e1 e2
         obtain rfl : ad = ad2 := by injection e
         clear e hji
         have Y0 := sk_' hy0
         clear hy0
         generalize (rd_T26 l0 ji).f0 = q0 at H Y0
         have Y1 := sk_' hy1
         clear hy1
         generalize (rd_T26 l0 ji).f1 = q1 at H Y1
         have Y2 := sk_' hy2
         clear hy2
         generalize (rd_T26 l0 ji).f2 = q2 at H Y2
         have Y3 := sk_' hy3
         clear hy3
         generalize (rd_T26 l0 ji).f3 = q3 at H Y3
         replace e1 := eq_true e1
         replace e2 := eq_true e2
         replace H := bs_' H
         obtain ⟨t3, B_, H⟩ := H
         have A3 := sk_' B_
         clear B_
         cases t3 with
         | false =>
          simp only [Bool.false_eq_true, if_false] at H
          refine BelowW.region (by kernel_rfl) (by kernel_rfl) ?_
          have F1 := sk_' F.out.drew
          clear F
          have F := F1
          clear F1
          have hx0 := (F.out.below.cell (bq_' w _ X0.out)).trans X0.out
          have hx1 := (F.out.below.cell (bq_' w _ X1.out)).trans X1.out
          have hx2 := (F.out.below.cell (bq_' w _ X2.out)).trans X2.out
          have hx3 := (F.out.below.cell (bq_' w _ X3.out)).trans X3.out
          have hy0 := (F.out.below.cell (bq_' w _ Y0.out)).trans Y0.out
          have hy1 := (F.out.below.cell (bq_' w _ Y1.out)).trans Y1.out
          have hy2 := (F.out.below.cell (bq_' w _ Y2.out)).trans Y2.out
          have hy3 := (F.out.below.cell (bq_' w _ Y3.out)).trans Y3.out
          generalize wr.drew = w5 at F hx0 hx1 hx2 hx3 hy0 hy1 hy2 hy3 ⊢
          replace hx0 := BelowW.at hx0
          replace hx1 := BelowW.at hx1
          replace hx2 := BelowW.at hx2
          replace hx3 := BelowW.at hx3
          replace hy0 := BelowW.at hy0
          replace hy1 := BelowW.at hy1
          replace hy2 := BelowW.at hy2
          replace hy3 := BelowW.at hy3
          change wpQuiet _ _ _ _ (List.cons _ _) _
          repeat (go_big_quiet_step (first | (go_at_call 141; (with_reducible refine (spec_l8Ok.calls p0 p1 p2 p3 true _ A2.out).mono ?_); exact fun _ _ h_ => ⟨h_.1, BelowW.step _ h_.2⟩) | (go_at_call 142; (with_reducible refine (spec_l8Before.calls q0 q1 q2 q3 p0 p1 p2 p3 false _ A3.out).mono ?_); exact fun _ _ h_ => ⟨h_.1, BelowW.step _ h_.2⟩)))
          refine wpQuiet_nil ?_
          intro w6 hb
          try simp only [i64_w, i32_w]
          clear hx0 hx1 hx2 hx3 hy0 hy1 hy2 hy3
          have F1 := sk_' (F.out.step hb)
          clear F hb
          have F := F1
          clear F1
          obtain rfl := Option.some.inj H
          go_wp2
          go_ret
          exact ⟨rfl, F.out.below⟩
         | true =>
          simp only [if_true] at H
          refine BelowW.region (by kernel_rfl) (by kernel_rfl) ?_
          have F1 := sk_' F.out.drew
          clear F
          have F := F1
          clear F1
          have hx0 := (F.out.below.cell (bq_' w _ X0.out)).trans X0.out
          have hx1 := (F.out.below.cell (bq_' w _ X1.out)).trans X1.out
          have hx2 := (F.out.below.cell (bq_' w _ X2.out)).trans X2.out
          have hx3 := (F.out.below.cell (bq_' w _ X3.out)).trans X3.out
          have hy0 := (F.out.below.cell (bq_' w _ Y0.out)).trans Y0.out
          have hy1 := (F.out.below.cell (bq_' w _ Y1.out)).trans Y1.out
          have hy2 := (F.out.below.cell (bq_' w _ Y2.out)).trans Y2.out
          have hy3 := (F.out.below.cell (bq_' w _ Y3.out)).trans Y3.out
          generalize wr.drew = w5 at F hx0 hx1 hx2 hx3 hy0 hy1 hy2 hy3 ⊢
          replace hx0 := BelowW.at hx0
          replace hx1 := BelowW.at hx1
          replace hx2 := BelowW.at hx2
          replace hx3 := BelowW.at hx3
          replace hy0 := BelowW.at hy0
          replace hy1 := BelowW.at hy1
          replace hy2 := BelowW.at hy2
          replace hy3 := BelowW.at hy3
          change wpQuiet _ _ _ _ (List.cons _ _) _
          repeat (go_big_quiet_step (first | (go_at_call 141; (with_reducible refine (spec_l8Ok.calls p0 p1 p2 p3 true _ A2.out).mono ?_); exact fun _ _ h_ => ⟨h_.1, BelowW.step _ h_.2⟩) | (go_at_call 142; (with_reducible refine (spec_l8Before.calls q0 q1 q2 q3 p0 p1 p2 p3 true _ A3.out).mono ?_); exact fun _ _ h_ => ⟨h_.1, BelowW.step _ h_.2⟩)))
          refine wpQuiet_nil ?_
          intro w6 hb
          try simp only [i64_w, i32_w]
          clear hx0 hx1 hx2 hx3 hy0 hy1 hy2 hy3
          have F1 := sk_' (F.out.step hb)
          clear F hb
          have F := F1
          clear F1
          have HA := sk_' H
          clear H
          go_wp2
          go_roundg k2
          case measure => omega
          case rel => exact ⟨wrap64 (x + 1), (by first | rfl | (simp; done) | (simp [*]; done)), HA, ⟨F.out.take 0⟩⟩
        rw [if_neg e2] at H
        exact absurd H (by simp)
       rw [if_neg e1] at H
       exact absurd H (by simp)
      rw [if_neg d3] at H
      have d3b : decide (0 < x) = false := decide_eq_false d3
      clear d3
      refine BelowW.region (by kernel_rfl) (by kernel_rfl) ?_
      have F1 := sk_' F.out.drew
      clear F
      have F := F1
      clear F1
      have hx0 := (F.out.below.cell (bq_' w _ X0.out)).trans X0.out
      have hx1 := (F.out.below.cell (bq_' w _ X1.out)).trans X1.out
      have hx2 := (F.out.below.cell (bq_' w _ X2.out)).trans X2.out
      have hx3 := (F.out.below.cell (bq_' w _ X3.out)).trans X3.out
      generalize wr.drew = w5 at F hx0 hx1 hx2 hx3 ⊢
      replace hx0 := BelowW.at hx0
      replace hx1 := BelowW.at hx1
      replace hx2 := BelowW.at hx2
      replace hx3 := BelowW.at hx3
      change wpQuiet _ _ _ _ (List.cons _ _) _
      repeat (go_big_quiet_step (first | (go_at_call 141; (with_reducible refine (spec_l8Ok.calls p0 p1 p2 p3 true _ A2.out).mono ?_); exact fun _ _ h_ => ⟨h_.1, BelowW.step _ h_.2⟩)))
      refine wpQuiet_nil ?_
      intro w6 hb
      try simp only [i64_w, i32_w]
      clear hx0 hx1 hx2 hx3
      have F1 := sk_' (F.out.step hb)
      clear F hb
      have F := F1
      clear F1
      have HA := sk_' H
      clear H
      go_wp2
      go_roundg k2
      case measure => omega
      case rel => exact ⟨wrap64 (x + 1), (by first | rfl | (simp; done) | (simp [*]; done)), HA, ⟨F.out.take 0⟩⟩
    rw [if_neg c2] at H
    exact absurd H (by simp)
   rw [if_neg c1] at H
   have cb1 : decide (x < (l0.length : Int)) = false := decide_eq_false c1
   clear c1
   obtain rfl := Option.some.inj H
   go_wp2
   go_ret
   exact ⟨by first | rfl | (simp; done) | (simp [*]; done), F.out.below⟩
end Go.Proofs.Ytbhlmeghbfmgiaa.F

namespace Go.Proofs.Ytbhlmeghbfmgiaa.F
open Go.RowKit Go.Proofs.YtbhlmeghbfmgiaaW.PrintWords Go.Proofs.YtbhlmeghbfmgiaaW.PrintLast Go.Proofs.YtbhlmeghbfmgiaaW.PrintMore
attribute [local go_sem] max2_int min2_int max_two min_two max_three min_three max_four min_four
set_option linter.unusedVariables false
set_option linter.unusedSimpArgs false
def spec_l8Put.l0 : Nat → List (S26) → Int → Int → Int → Int → Int → Option ((List (S26)))
 | 0, _, _, _, _, _, _ => none
 | k + 1, x0, x5, x147000, x147001, x147002, x147003 => if x5 < (x0.length : Int) then (if 0 ≤ x5 then ((spec_l8Before.f ((rd_T26 x0 x5).f0) ((rd_T26 x0 x5).f1) ((rd_T26 x0 x5).f2) ((rd_T26 x0 x5).f3) x147000 x147001 x147002 x147003).bind fun t148 => (if t148 = true then (spec_l8Put.l0 k x0 (wrap64 (x5 + 1)) x147000 x147001 x147002 x147003) else ((some (([] : List (S26)) : List (S26))).bind fun y149 => (if x5 ≤ (x0.length : Int) then ((some (x0.take (x5 : Int).toNat : List (S26))).bind fun y152 => (if y149.length + y152.length < 4398046511104 then ((some (y149 ++ y152 : List (S26))).bind fun y156 => ((some (([(⟨x147000, x147001, x147002, x147003⟩ : S26)] : List (S26)) : List (S26))).bind fun y159 => (if y156.length + y159.length < 4398046511104 then ((some (y156 ++ y159 : List (S26))).bind fun y162 => ((some (x0.drop (x5 : Int).toNat : List (S26))).bind fun y165 => (if y162.length + y165.length < 4398046511104 then (some (y162 ++ y165)) else (none)))) else (none)))) else (none))) else (none))))) else (none)) else ((some (([] : List (S26)) : List (S26))).bind fun y172 => (if 0 ≤ x5 then (if x5 ≤ (x0.length : Int) then ((some (x0.take (x5 : Int).toNat : List (S26))).bind fun y175 => (if y172.length + y175.length < 4398046511104 then ((some (y172 ++ y175 : List (S26))).bind fun y179 => ((some (([(⟨x147000, x147001, x147002, x147003⟩ : S26)] : List (S26)) : List (S26))).bind fun y182 => (if y179.length + y182.length < 4398046511104 then ((some (y179 ++ y182 : List (S26))).bind fun y185 => ((some (x0.drop (x5 : Int).toNat : List (S26))).bind fun y188 => (if y185.length + y188.length < 4398046511104 then (some (y185 ++ y188)) else (none)))) else (none)))) else (none))) else (none)) else (none)))
def spec_l8Put.f (k : Nat) (l0 : List (S26)) (a1_0 : Int) (a1_1 : Int) (a1_2 : Int) (a1_3 : Int) : Option ((List (S26))) := spec_l8Put.l0 k l0 0 a1_0 a1_1 a1_2 a1_3
def spec_l8Put.T4 : Bool × List (List Nat × List Nat) := (true, [([], []), ([], []), ([], []), ([1, 2], [1, 2]), ([0, 3], [0, 3]), ([], []), ([5], [5]), ([4, 6, 4], [4, 6]), ([], []), ([], []), ([8, 9], [8, 9]), ([7, 10, 7], [7, 10]), ([11, 11, 0, 1, 2, 3, 4, 5, 6, 7, 8, 9, 10, 11], [11])])
def spec_l8Put.B4 : List Nat := [0, 0, 0, 6, 15, 0, 32, 127, 0, 0, 768, 2047, 4095]
theorem spec_l8Put.tab4 : rtab .any (opsOf Try.f175 4) = spec_l8Put.T4 := by kernel_rfl
theorem spec_l8Put.bits4 : waitsOk spec_l8Put.T4.2 spec_l8Put.B4 = true := by kernel_rfl
set_option maxHeartbeats 8000000 in
set_option maxRecDepth 100000 in
theorem spec_l8Put.calls (k : Nat) (A0 : Option Addr) (c0 : Nat) (l0 : List (S26)) (a1_0 : Int) (a1_1 : Int) (a1_2 : Int) (a1_3 : Int) (r : List (S26)) (w : World) (hr0 : Kd.C k26 w A0 l0.length l0) (hc0 : l0.length ≤ c0) (h : spec_l8Put.f k l0 a1_0 a1_1 a1_2 a1_3 = some r) :
  Calls Try.prog 175 #[.slice A0 l0.length c0, .agg #[.int .i64 a1_0, .int .i64 a1_1, .int .i64 a1_2, .int .i64 a1_3]] w fun e w' => ∃ v0_ : Value, e = .returned (v0_) ∧ Kd.R k26 26 w' w.heap.size (fun _ => True) v0_ r ∧ Below w.heap.size w w' := by
 have hu26 := Try.underlying26
 have HR0 := sk_' hr0
 have HC0 := sk_' hc0
 clear hr0 hc0
 have HB := sk_' (Below.refl w.heap.size w)
 have H : (spec_l8Put.l0 k l0 0 a1_0 a1_1 a1_2 a1_3) = some r := h
 clear h
 have H' := sk_' H
 clear H
 go_enter Try.func175, Try.ntmps175
 go_wp2_with (first | ((with_reducible refine gate_dst (N := 3) rfl ?_); refine box_event ?hg (N := 3) ?hd (cs := #[.int .i64 a1_0, .int .i64 a1_1, .int .i64 a1_2, .int .i64 a1_3]) (t := 26) ?hr ?_; (case hd => rfl); (case hg => rfl); (case hr => first | (go_simp; done) | (go_simp; rfl)); intro gb146 hg w3 hbox hb; have n0_ := sk_' (pp_' (by repeat (first | (with_reducible first | exact HB.out | apply pa_' | apply pn_' | apply pd_') | exact HB.out)) hb); have n1_ := sk_' (hbox); have n2_ := sk_' ((by rw [hg]; exact (ps_' (by repeat (first | (with_reducible first | exact HB.out | apply pa_' | apply pn_' | apply pd_') | exact HB.out))) : w.heap.size ≤ gb146)); have n3_ := sk_' ((by rw [hg]; exact (ps_' (by repeat (first | (with_reducible first | exact HB.out | apply pa_' | apply pn_' | apply pd_') | exact HB.out))) : w.heap.size ≤ gb146)); clear HB; have HB := n0_; have BK146 := n1_; have GW146 := n2_; have GE146 := n3_; clear n0_ n1_ n2_ n3_; clear hb hbox hg))
 go_loopg [5] k (fun kq v5 w' => ∃ (x5_1 : Int), v5 = .int .i64 x5_1 ∧ Aside0 (spec_l8Put.l0 kq l0 x5_1 a1_0 a1_1 a1_2 a1_3 = some r) ∧ Aside0 (kq ≤ k) ∧ Aside0 (w'.heap[gb146]? = some (.cells #[.int .i64 a1_0, .int .i64 a1_1, .int .i64 a1_2, .int .i64 a1_3] 26 (0, 0))) ∧ Aside0 (Below w.heap.size w w'))
 case atStart => exact ⟨(0), (by first | rfl | (simp; done) | (simp [*]; done)), H', ⟨Nat.le_refl _⟩, ⟨by (with_reducible repeat (first | refine kn_' ?_ _ | refine kd_' ?_ | refine ka_' ?_ _)); exact BK146.out⟩, ⟨by repeat (first | (with_reducible first | exact HB.out | apply pa_' | apply pn_' | apply pd_' | refine pt_' ?_ GE146.out) | exact HB.out)⟩⟩
 case round =>
  clear H'
  try clear c1
  try clear p2
  obtain ⟨x5_1, rfl, HA, HK1, BK146, HB⟩ := hrel
  cases gk with
  | zero => exact absurd HA.out (by simp [spec_l8Put.l0])
  | succ k1 =>
   have H := HA.out
   clear HA
   simp only [spec_l8Put.l0] at H
   by_cases c4 : x5_1 < (l0.length : Int)
   ·
    rw [if_pos c4] at H
    have c4b0 : decide (x5_1 < (l0.length : Int)) = true := decide_eq_true c4
    clear c4
    by_cases c5 : 0 ≤ x5_1
    ·
     rw [if_pos c5] at H
     have c5b0 : decide (0 ≤ x5_1) = true := decide_eq_true c5
     clear c5
     replace H := bs_' H
     obtain ⟨t148, A60, H⟩ := H
     try dsimp only at H
     have A6 := sk_' A60
     clear A60
     by_cases c7 : t148 = true
     ·
      subst c7
      rw [if_pos rfl] at H
      have H' := sk_' H
      clear H
      try go_wp2
      have n0_ := sk_' (kd_' BK146.out)
      have n1_ := sk_' (pd_' HB.out)
      clear BK146
      clear HB
      have BK146 := n0_
      have HB := n1_
      clear n0_ n1_
      have p147 : 0 ≤ (x5_1 : Int) := od_' (by first | (with_reducible assumption) | assumption)
      have q147 : x5_1 < (l0.length : Int) := od_' (by first | (with_reducible assumption) | assumption)
      obtain ⟨ad147, e147, hx147_0, hx147_1, hx147_2, hx147_3⟩ := at_T26 HR0.out x5_1 p147 q147
      have hw147_3 := hx147_3
      have hw147_2 := hx147_2
      have hw147_1 := hx147_1
      have hw147_0 := hx147_0
      cases e147
      replace hx147_0 := (HB.out.cell (bq_' w _ hx147_0)).trans hx147_0
      replace hx147_1 := (HB.out.cell (bq_' w _ hx147_1)).trans hx147_1
      replace hx147_2 := (HB.out.cell (bq_' w _ hx147_2)).trans hx147_2
      replace hx147_3 := (HB.out.cell (bq_' w _ hx147_3)).trans hx147_3
      replace p147 := eq_true p147
      replace q147 := eq_true q147
      refine BelowW.region (by kernel_rfl) (by kernel_rfl) ?_
      have hq0_ : wr.drew.cell? ⟨gb146, 0, none⟩ = some (.int .i64 a1_0) := (kc_' BK146.out 0).trans rfl
      have hq1_ : wr.drew.cell? ⟨gb146, 1, none⟩ = some (.int .i64 a1_1) := (kc_' BK146.out 1).trans rfl
      have hq2_ : wr.drew.cell? ⟨gb146, 2, none⟩ = some (.int .i64 a1_2) := (kc_' BK146.out 2).trans rfl
      have hq3_ : wr.drew.cell? ⟨gb146, 3, none⟩ = some (.int .i64 a1_3) := (kc_' BK146.out 3).trans rfl
      have hq4_ : wr.drew.cell? (ad147.add ((x5_1).toNat * 4)) = some (.int .i64 ((rd_T26 l0 x5_1).f0)) := ((HB.out.cell (bq_' w _ hw147_0)).trans hw147_0)
      have hq5_ : wr.drew.cell? ⟨(ad147.add ((x5_1).toNat * 4)).block, (ad147.add ((x5_1).toNat * 4)).off + 1, none⟩ = some (.int .i64 ((rd_T26 l0 x5_1).f1)) := ((HB.out.cell (bq_' w _ hw147_1)).trans hw147_1)
      have hq6_ : wr.drew.cell? ⟨(ad147.add ((x5_1).toNat * 4)).block, (ad147.add ((x5_1).toNat * 4)).off + 2, none⟩ = some (.int .i64 ((rd_T26 l0 x5_1).f2)) := ((HB.out.cell (bq_' w _ hw147_2)).trans hw147_2)
      have hq7_ : wr.drew.cell? ⟨(ad147.add ((x5_1).toNat * 4)).block, (ad147.add ((x5_1).toNat * 4)).off + 3, none⟩ = some (.int .i64 ((rd_T26 l0 x5_1).f3)) := ((HB.out.cell (bq_' w _ hw147_3)).trans hw147_3)
      generalize wr.drew = w8 at BK146 HB hx147_0 hx147_1 hx147_2 hx147_3 hq0_ hq1_ hq2_ hq3_ hq4_ hq5_ hq6_ hq7_ ⊢
      replace hq0_ := BelowW.at hq0_
      replace hq1_ := BelowW.at hq1_
      replace hq2_ := BelowW.at hq2_
      replace hq3_ := BelowW.at hq3_
      replace hq4_ := BelowW.at hq4_
      replace hq5_ := BelowW.at hq5_
      replace hq6_ := BelowW.at hq6_
      replace hq7_ := BelowW.at hq7_
      change wpQuiet _ _ _ _ (List.cons _ _) _
      repeat (go_big_quiet_step (first | (go_at_call 142; (with_reducible refine (spec_l8Before.calls ((rd_T26 l0 x5_1).f0) ((rd_T26 l0 x5_1).f1) ((rd_T26 l0 x5_1).f2) ((rd_T26 l0 x5_1).f3) a1_0 a1_1 a1_2 a1_3 true _ A6.out).mono ?_); exact fun _ _ h_ => ⟨h_.1, BelowW.step _ h_.2⟩)))
      refine wpQuiet_nil ?_
      intro w9 hb
      try simp only [i64_w, i32_w]
      clear hq0_ hq1_ hq2_ hq3_ hq4_ hq5_ hq6_ hq7_
      have n0_ := sk_' (blk_below (g := gb146) (o := .cells #[.int .i64 a1_0, .int .i64 a1_1, .int .i64 a1_2, .int .i64 a1_3] 26 (0, 0)) (by (with_reducible repeat (first | refine kn_' ?_ _ | refine kd_' ?_ | refine ka_' ?_ _)); exact BK146.out) hb)
      have n1_ := sk_' (pp_' (by repeat (first | (with_reducible first | exact HB.out | apply pa_' | apply pn_' | apply pd_' | refine pt_' ?_ GE146.out) | exact HB.out)) hb)
      clear BK146
      clear HB
      have BK146 := n0_
      have HB := n1_
      clear n0_ n1_
      (try clear hb)
      (try clear hb2)
      (try clear hk)
      (try clear hi)
      try go_wp2
      go_roundg k1
      case measure => have := HK1.out; omega
      case rel => exact ⟨(wrap64 (x5_1 + 1)), (by first | rfl | (simp; done) | (simp [*]; done)), H', ⟨by have := HK1.out; omega⟩, ⟨by (with_reducible repeat (first | refine kn_' ?_ _ | refine kd_' ?_ | refine ka_' ?_ _)); exact BK146.out⟩, ⟨by repeat (first | (with_reducible first | exact HB.out | apply pa_' | apply pn_' | apply pd_' | refine pt_' ?_ GE146.out) | exact HB.out)⟩⟩
     replace c7 := Bool.eq_false_iff.mpr c7
     subst c7
     rw [if_neg (show ¬ (false = true) by decide)] at H
     obtain ⟨y149, hy149⟩ : ∃ y_ : List (S26), y_ = (([] : List (S26))) := ⟨_, rfl⟩
     replace H : (if x5_1 ≤ (l0.length : Int) then ((some (l0.take (x5_1 : Int).toNat : List (S26))).bind fun y152 => (if y149.length + y152.length < 4398046511104 then ((some (y149 ++ y152 : List (S26))).bind fun y156 => ((some (([(⟨a1_0, a1_1, a1_2, a1_3⟩ : S26)] : List (S26)) : List (S26))).bind fun y159 => (if y156.length + y159.length < 4398046511104 then ((some (y156 ++ y159 : List (S26))).bind fun y162 => ((some (l0.drop (x5_1 : Int).toNat : List (S26))).bind fun y165 => (if y162.length + y165.length < 4398046511104 then (some (y162 ++ y165)) else (none)))) else (none)))) else (none))) else (none)) = some r := by first | (rw [hy149]; with_reducible exact H) | (have H2_ := (Option.bind_some _ _).symm.trans H; rw [hy149]; with_reducible exact H2_) | (have H2_ := (Option.bind_some _ _).symm.trans H; with_reducible exact H2_) | with_reducible exact H | (rw [hy149]; exact H) | exact H
     have Ny149 := sk_' hy149
     clear hy149
     have c10b0 := eq_true (od_' (by first | (with_reducible assumption) | assumption) : 0 ≤ x5_1)
     by_cases c11 : x5_1 ≤ (l0.length : Int)
     ·
      rw [if_pos c11] at H
      have c11b0 := eq_true c11
      have c11b1 : decide (x5_1 ≤ (l0.length : Int)) = true := decide_eq_true c11
      clear c11
      obtain ⟨y152, hy152⟩ : ∃ y_ : List (S26), y_ = (l0.take (x5_1 : Int).toNat) := ⟨_, rfl⟩
      replace H : (if y149.length + y152.length < 4398046511104 then ((some (y149 ++ y152 : List (S26))).bind fun y156 => ((some (([(⟨a1_0, a1_1, a1_2, a1_3⟩ : S26)] : List (S26)) : List (S26))).bind fun y159 => (if y156.length + y159.length < 4398046511104 then ((some (y156 ++ y159 : List (S26))).bind fun y162 => ((some (l0.drop (x5_1 : Int).toNat : List (S26))).bind fun y165 => (if y162.length + y165.length < 4398046511104 then (some (y162 ++ y165)) else (none)))) else (none)))) else (none)) = some r := by first | (rw [hy152]; with_reducible exact H) | (have H2_ := (Option.bind_some _ _).symm.trans H; rw [hy152]; with_reducible exact H2_) | (have H2_ := (Option.bind_some _ _).symm.trans H; with_reducible exact H2_) | with_reducible exact H | (rw [hy152]; exact H) | exact H
      have Ny152 := sk_' hy152
      clear hy152
      by_cases c12 : y149.length + y152.length < 4398046511104
      ·
       rw [if_pos c12] at H
       have LMc12 := sk_' c12
       clear c12
       obtain ⟨y156, hy156⟩ : ∃ y_ : List (S26), y_ = (y149 ++ y152) := ⟨_, rfl⟩
       replace H : ((some (([(⟨a1_0, a1_1, a1_2, a1_3⟩ : S26)] : List (S26)) : List (S26))).bind fun y159 => (if y156.length + y159.length < 4398046511104 then ((some (y156 ++ y159 : List (S26))).bind fun y162 => ((some (l0.drop (x5_1 : Int).toNat : List (S26))).bind fun y165 => (if y162.length + y165.length < 4398046511104 then (some (y162 ++ y165)) else (none)))) else (none))) = some r := by first | (rw [hy156]; with_reducible exact H) | (have H2_ := (Option.bind_some _ _).symm.trans H; rw [hy156]; with_reducible exact H2_) | (have H2_ := (Option.bind_some _ _).symm.trans H; with_reducible exact H2_) | with_reducible exact H | (rw [hy156]; exact H) | exact H
       have Ny156 := sk_' hy156
       clear hy156
       obtain ⟨y159, hy159⟩ : ∃ y_ : List (S26), y_ = (([(⟨a1_0, a1_1, a1_2, a1_3⟩ : S26)] : List (S26))) := ⟨_, rfl⟩
       replace H : (if y156.length + y159.length < 4398046511104 then ((some (y156 ++ y159 : List (S26))).bind fun y162 => ((some (l0.drop (x5_1 : Int).toNat : List (S26))).bind fun y165 => (if y162.length + y165.length < 4398046511104 then (some (y162 ++ y165)) else (none)))) else (none)) = some r := by first | (rw [hy159]; with_reducible exact H) | (have H2_ := (Option.bind_some _ _).symm.trans H; rw [hy159]; with_reducible exact H2_) | (have H2_ := (Option.bind_some _ _).symm.trans H; with_reducible exact H2_) | with_reducible exact H | (rw [hy159]; exact H) | exact H
       have Ny159 := sk_' hy159
       clear hy159
       by_cases c13 : y156.length + y159.length < 4398046511104
       ·
        rw [if_pos c13] at H
        have LMc13 := sk_' c13
        clear c13
        obtain ⟨y162, hy162⟩ : ∃ y_ : List (S26), y_ = (y156 ++ y159) := ⟨_, rfl⟩
        replace H : ((some (l0.drop (x5_1 : Int).toNat : List (S26))).bind fun y165 => (if y162.length + y165.length < 4398046511104 then (some (y162 ++ y165)) else (none))) = some r := by first | (rw [hy162]; with_reducible exact H) | (have H2_ := (Option.bind_some _ _).symm.trans H; rw [hy162]; with_reducible exact H2_) | (have H2_ := (Option.bind_some _ _).symm.trans H; with_reducible exact H2_) | with_reducible exact H | (rw [hy162]; exact H) | exact H
        have Ny162 := sk_' hy162
        clear hy162
        have c14b0 := eq_true (od_' (by first | (with_reducible assumption) | assumption) : 0 ≤ x5_1)
        have c15b0 := eq_true (od_' (by first | (with_reducible assumption) | assumption) : x5_1 ≤ (l0.length : Int))
        obtain ⟨y165, hy165⟩ : ∃ y_ : List (S26), y_ = (l0.drop (x5_1 : Int).toNat) := ⟨_, rfl⟩
        replace H : (if y162.length + y165.length < 4398046511104 then (some (y162 ++ y165)) else (none)) = some r := by first | (rw [hy165]; with_reducible exact H) | (have H2_ := (Option.bind_some _ _).symm.trans H; rw [hy165]; with_reducible exact H2_) | (have H2_ := (Option.bind_some _ _).symm.trans H; with_reducible exact H2_) | with_reducible exact H | (rw [hy165]; exact H) | exact H
        have Ny165 := sk_' hy165
        clear hy165
        by_cases c16 : y162.length + y165.length < 4398046511104
        ·
         rw [if_pos c16] at H
         have LMc16 := sk_' c16
         clear c16
         obtain ⟨y169, hy169⟩ : ∃ y_ : List (S26), y_ = (y162 ++ y165) := ⟨_, rfl⟩
         replace H : (some y169) = some r := by first | (rw [hy169]; with_reducible exact H) | (have H2_ := (Option.bind_some _ _).symm.trans H; rw [hy169]; with_reducible exact H2_) | (have H2_ := (Option.bind_some _ _).symm.trans H; with_reducible exact H2_) | with_reducible exact H | (rw [hy169]; exact H) | exact H
         have Ny169 := sk_' hy169
         clear hy169
         obtain rfl := Option.some.inj H
         try go_wp2
         have n0_ := sk_' (kd_' BK146.out)
         have n1_ := sk_' (pd_' HB.out)
         clear BK146
         clear HB
         have BK146 := n0_
         have HB := n1_
         clear n0_ n1_
         have p147 : 0 ≤ (x5_1 : Int) := od_' (by first | (with_reducible assumption) | assumption)
         have q147 : x5_1 < (l0.length : Int) := od_' (by first | (with_reducible assumption) | assumption)
         obtain ⟨ad147, e147, hx147_0, hx147_1, hx147_2, hx147_3⟩ := at_T26 HR0.out x5_1 p147 q147
         have hw147_3 := hx147_3
         have hw147_2 := hx147_2
         have hw147_1 := hx147_1
         have hw147_0 := hx147_0
         cases e147
         replace hx147_0 := (HB.out.cell (bq_' w _ hx147_0)).trans hx147_0
         replace hx147_1 := (HB.out.cell (bq_' w _ hx147_1)).trans hx147_1
         replace hx147_2 := (HB.out.cell (bq_' w _ hx147_2)).trans hx147_2
         replace hx147_3 := (HB.out.cell (bq_' w _ hx147_3)).trans hx147_3
         replace p147 := eq_true p147
         replace q147 := eq_true q147
         refine BelowW.region (by kernel_rfl) (by kernel_rfl) ?_
         have hq0_ : wr.drew.cell? ⟨gb146, 0, none⟩ = some (.int .i64 a1_0) := (kc_' BK146.out 0).trans rfl
         have hq1_ : wr.drew.cell? ⟨gb146, 1, none⟩ = some (.int .i64 a1_1) := (kc_' BK146.out 1).trans rfl
         have hq2_ : wr.drew.cell? ⟨gb146, 2, none⟩ = some (.int .i64 a1_2) := (kc_' BK146.out 2).trans rfl
         have hq3_ : wr.drew.cell? ⟨gb146, 3, none⟩ = some (.int .i64 a1_3) := (kc_' BK146.out 3).trans rfl
         have hq4_ : wr.drew.cell? (ad147.add ((x5_1).toNat * 4)) = some (.int .i64 ((rd_T26 l0 x5_1).f0)) := ((HB.out.cell (bq_' w _ hw147_0)).trans hw147_0)
         have hq5_ : wr.drew.cell? ⟨(ad147.add ((x5_1).toNat * 4)).block, (ad147.add ((x5_1).toNat * 4)).off + 1, none⟩ = some (.int .i64 ((rd_T26 l0 x5_1).f1)) := ((HB.out.cell (bq_' w _ hw147_1)).trans hw147_1)
         have hq6_ : wr.drew.cell? ⟨(ad147.add ((x5_1).toNat * 4)).block, (ad147.add ((x5_1).toNat * 4)).off + 2, none⟩ = some (.int .i64 ((rd_T26 l0 x5_1).f2)) := ((HB.out.cell (bq_' w _ hw147_2)).trans hw147_2)
         have hq7_ : wr.drew.cell? ⟨(ad147.add ((x5_1).toNat * 4)).block, (ad147.add ((x5_1).toNat * 4)).off + 3, none⟩ = some (.int .i64 ((rd_T26 l0 x5_1).f3)) := ((HB.out.cell (bq_' w _ hw147_3)).trans hw147_3)
         generalize wr.drew = w17 at BK146 HB hx147_0 hx147_1 hx147_2 hx147_3 hq0_ hq1_ hq2_ hq3_ hq4_ hq5_ hq6_ hq7_ ⊢
         replace hq0_ := BelowW.at hq0_
         replace hq1_ := BelowW.at hq1_
         replace hq2_ := BelowW.at hq2_
         replace hq3_ := BelowW.at hq3_
         replace hq4_ := BelowW.at hq4_
         replace hq5_ := BelowW.at hq5_
         replace hq6_ := BelowW.at hq6_
         replace hq7_ := BelowW.at hq7_
         change wpQuiet _ _ _ _ (List.cons _ _) _
         repeat (go_big_quiet_step (first | (go_at_call 142; (with_reducible refine (spec_l8Before.calls ((rd_T26 l0 x5_1).f0) ((rd_T26 l0 x5_1).f1) ((rd_T26 l0 x5_1).f2) ((rd_T26 l0 x5_1).f3) a1_0 a1_1 a1_2 a1_3 false _ A6.out).mono ?_); exact fun _ _ h_ => ⟨h_.1, BelowW.step _ h_.2⟩)))
         refine wpQuiet_nil ?_
         intro w18 hb
         try simp only [i64_w, i32_w]
         clear hq0_ hq1_ hq2_ hq3_ hq4_ hq5_ hq6_ hq7_
         have n0_ := sk_' (blk_below (g := gb146) (o := .cells #[.int .i64 a1_0, .int .i64 a1_1, .int .i64 a1_2, .int .i64 a1_3] 26 (0, 0)) (by (with_reducible repeat (first | refine kn_' ?_ _ | refine kd_' ?_ | refine ka_' ?_ _)); exact BK146.out) hb)
         have n1_ := sk_' (pp_' (by repeat (first | (with_reducible first | exact HB.out | apply pa_' | apply pn_' | apply pd_' | refine pt_' ?_ GE146.out) | exact HB.out)) hb)
         clear BK146
         clear HB
         have BK146 := n0_
         have HB := n1_
         clear n0_ n1_
         (try clear hb)
         (try clear hb2)
         (try clear hk)
         (try clear hi)
         try go_wp2
         have n0_ := sk_' (kd_' BK146.out)
         have n1_ := sk_' (pd_' HB.out)
         clear BK146
         clear HB
         have BK146 := n0_
         have HB := n1_
         clear n0_ n1_
         have q20 : (x5_1 : Int) ≤ ((l0.length : Int) : Int) := od_' (by first | (with_reducible assumption) | assumption)
         obtain ⟨i020, hi020, _, hsz20, _⟩ := info_parts info26
         have hroom20 : l0.length ≤ c0 := HC0.out
         have hC20 : Kd.C k26 _ (some ad147) l0.length l0 := HR0.out
         have hcut20 := cut_to (P := Try.prog) 24 26 .i64 Try.underlying24 hi020 (some ad147) l0.length c0 x5_1 (od_' (by first | (with_reducible assumption) | assumption)) q20 hroom20
         have hr20 := Kd.C_take (m := (x5_1 : Int).toNat) hC20 (by omega)
         have hy20 : y152.length = (x5_1 : Int).toNat := (by rw [Ny152.out, xt_']; omega)
         rw [← Ny152.out] at hr20
         rw [← hy20] at hcut20
         have HR155 := sk_' hr20
         have HC155 := sk_' (show y152.length ≤ c0 from by omega)
         clear hr20 hC20 hroom20 hi020 hsz20
         have KY20 := sk_' hy20
         clear hy20
         replace q20 := eq_true q20
         have q21 : (x5_1 : Int) ≤ ((l0.length : Int) : Int) := od_' (by first | (with_reducible assumption) | assumption)
         obtain ⟨i021, hi021, _, hsz21, _⟩ := info_parts info26
         have hroom21 : l0.length ≤ c0 := HC0.out
         have hC21 : Kd.C k26 _ (some ad147) l0.length l0 := HR0.out
         have q021 : (0 : Int) ≤ (x5_1 : Int) := od_' (by first | (with_reducible assumption) | assumption)
         have hcut21 := cut_from (P := Try.prog) 24 26 .i64 Try.underlying24 hi021 4 hsz21 (some ad147) l0.length c0 x5_1 q021 q21
         have hr21 := Kd.C_drop (m := (x5_1 : Int).toNat) (c := c0) hC21 (by omega) hroom21
         obtain ⟨A21, hA21⟩ : ∃ A1, A1 = (if c0 = (x5_1 : Int).toNat then (some ad147) else ((some ad147) : Option Addr).map (·.add ((x5_1 : Int).toNat * 4))) := ⟨_, rfl⟩
         obtain ⟨c21, hc21⟩ : ∃ c1, c1 = c0 - (x5_1 : Int).toNat := ⟨_, rfl⟩
         have hy21 : y165.length = l0.length - (x5_1 : Int).toNat := (by rw [Ny165.out, xd_'] <;> omega)
         rw [show (l0).drop (x5_1 : Int).toNat = y165 from Ny165.out.symm] at hr21
         replace hr21 : Kd.C k26 _ A21 y165.length y165 := (by rw [hA21]; exact hr21)
         rw [← hy21, ← hA21, ← hc21] at hcut21
         have HR168 := sk_' hr21
         have HC168 := sk_' (show y165.length ≤ c21 from by rw [hy21, hc21]; exact Nat.sub_le_sub_right hroom21 _)
         clear hr21 hC21 hroom21 hi021 hsz21 hc21
         have KY21 := sk_' hy21
         have KA21 := sk_' hA21
         clear hy21 hA21
         replace q21 := eq_true q21
         refine start_ (n := 13) (S := fun w' => w'.cell? ⟨gb146, 0, none⟩ = some (.int .i64 a1_0) ∧ w'.cell? ⟨gb146, 1, none⟩ = some (.int .i64 a1_1) ∧ w'.cell? ⟨gb146, 2, none⟩ = some (.int .i64 a1_2) ∧ w'.cell? ⟨gb146, 3, none⟩ = some (.int .i64 a1_3)) (ds := []) #[false, false, false, false, false, false, false, false, false, false, false, false, false] (by kernel_rfl) rfl rfl ⟨(kc_' BK146.out 0).trans rfl, (kc_' BK146.out 1).trans rfl, (kc_' BK146.out 2).trans rfl, (kc_' BK146.out 3).trans rfl⟩ (fun hHeld => ?_); refine with_tabW spec_l8Put.tab4 spec_l8Put.bits4 (fun HT_ HW_ => ?_)
         generalize w18.drew = w19 at BK146 HB HR155 HR168 hHeld ⊢
         refine pure_ (i := 1) (N := some 21) (v := ?_) (a' := ?_) #[false, true, false, false, false, false, false, false, false, false, false, false, false] rfl rfl (any_of HT_.out (by kernel_rfl)) (fun _ _ _ h => h) (Or.inl ⟨by rfl, ?_⟩) ?_ ?_
         rotate_left
         ·
          intro w'
          go_simp
          with_reducible rfl
         rotate_left
         ·
          simp only [Act.put, sa_', sz_', sc_', i64_w, i32_w]
          rfl
         refine pure_ (i := 2) (N := some 22) (v := ?_) (a' := ?_) #[false, true, true, false, false, false, false, false, false, false, false, false, false] rfl rfl (any_of HT_.out (by kernel_rfl)) (fun _ _ _ h => h) (Or.inl ⟨by rfl, ?_⟩) ?_ ?_
         rotate_left
         ·
          intro w'
          go_simp
          with_reducible rfl
         rotate_left
         ·
          simp only [Act.put, sa_', sz_', sc_', i64_w, i32_w]
          rfl
         refine pure_ (i := 3) (N := some 23) (v := ?_) (a' := ?_) #[false, true, true, true, false, false, false, false, false, false, false, false, false] rfl rfl (any_of HT_.out (by kernel_rfl)) (fun _ _ _ h => h) (Or.inl ⟨by rfl, ?_⟩) ?_ ?_
         rotate_left
         ·
          intro w'
          go_simp
          with_reducible rfl
         rotate_left
         ·
          simp only [Act.put, sa_', sz_', sc_', i64_w, i32_w]
          rfl
         refine pure_ (i := 8) (N := some 28) (v := ?_) (a' := ?_) #[false, true, true, true, false, false, false, false, true, false, false, false, false] rfl rfl (any_of HT_.out (by kernel_rfl)) (fun _ _ _ h => h) (Or.inl ⟨by rfl, ?_⟩) ?_ ?_
         rotate_left
         ·
          intro w'
          go_simp
          with_reducible rfl
         rotate_left
         ·
          simp only [Act.put, sa_', sz_', sc_', i64_w, i32_w]
          rfl
         refine pure_ (i := 9) (N := some 29) (v := ?_) (a' := ?_) #[false, true, true, true, false, false, false, false, true, true, false, false, false] rfl rfl (any_of HT_.out (by kernel_rfl)) (fun _ _ _ h => h) (Or.inl ⟨by rfl, ?_⟩) ?_ ?_
         rotate_left
         ·
          intro w'
          go_simp
          with_reducible rfl
         rotate_left
         ·
          simp only [Act.put, sa_', sz_', sc_', i64_w, i32_w]
          rfl
         refine pure_ (i := 10) (N := some 30) (v := ?_) (a' := ?_) #[false, true, true, true, false, false, false, false, true, true, true, false, false] rfl rfl (any_of HT_.out (by kernel_rfl)) (fun _ _ _ h => h) (Or.inl ⟨by rfl, ?_⟩) ?_ ?_
         rotate_left
         ·
          intro w'
          go_simp
          with_reducible rfl
         rotate_left
         ·
          simp only [Act.put, sa_', sz_', sc_', i64_w, i32_w]
          rfl
         refine take_ (i := 5) (N := some 25) (v := ?_) (a' := ?_) #[false, true, true, true, false, true, false, false, true, true, true, false, false] rfl rfl (take_ofW HT_.out HW_.out (by kernel_rfl)) (fun _ _ _ h => h) (Or.inl ⟨by rfl, ?_⟩) hHeld ?_ ?_
         rotate_left
         ·
          rintro w' ⟨s0, s1, s2, s3⟩
          go_simp
          with_reducible rfl
         rotate_left
         ·
          simp only [Act.put, sa_', sz_', sc_', i64_w, i32_w]
          rfl
         refine join_ (σ := Value × Value × Value) 3 #[true, true, true, true, true, true, true, false, true, true, true, false, false] (fun s_ => [(20, s_.1), (24, s_.2.1), (26, s_.2.2)]) (fun s_ w' => (w'.cell? ⟨gb146, 0, none⟩ = some (.int .i64 a1_0) ∧ w'.cell? ⟨gb146, 1, none⟩ = some (.int .i64 a1_1) ∧ w'.cell? ⟨gb146, 2, none⟩ = some (.int .i64 a1_2) ∧ w'.cell? ⟨gb146, 3, none⟩ = some (.int .i64 a1_3)) ∧ (Kd.R k26 26 w' w.heap.size (fun k_ => some k_ ≠ (s_.2.2 : Value).ownBlock ∧ k_ ≠ gb146) s_.2.1 y156) ∧ (Kd.R k26 26 w' w.heap.size (fun k_ => some k_ ≠ (s_.2.1 : Value).ownBlock ∧ k_ ≠ gb146) s_.2.2 y159) ∧ (w'.heap[gb146]? = some (.cells #[.int .i64 a1_0, .int .i64 a1_1, .int .i64 a1_2, .int .i64 a1_3] 26 (0, 0))) ∧ (Below w.heap.size w w')) ?_ ?_
         rotate_left
         ·
          intro hCont
          refine two_ (i := 0) (j := 6) (Ni := some 20) (Nj := some 26) #[true, true, true, true, false, true, false, false, true, true, true, false, false] #[false, true, true, true, false, true, true, false, true, true, true, false, false] rfl rfl rfl rfl (two_of HT_.out (by kernel_rfl)) (by decide) (by decide) (fun K hK => ?_) (fun K hK => ?_)
          ·
           skip
           refine Kd.R_lit_step k26 _ 26 ?hg (N := 20) ?hd (xs := ([] : List (S26))) (inner := []) (ok := fun _ => True) (okp := fun _ => True) ?hr ?hp (fun _ hk => hk) trivial (Below.refl _ _) (Nat.le_refl _) (by simp) ?_; (case hd => rfl); (case hg => rfl); (case hr => first | (go_simp; done) | (go_simp; rfl)); (case hp => exact (Reps.none _ _))
           intro v150 w22 ho23 hb hg_ hnew_
           clear hg_ hnew_
           (first | rw [← Ny149.out] at ho23 | (simp only [Int.reduceToNat] at ho23; rw [← Ny149.out] at ho23))
           have n0_ := sk_' (Kd.R_lower (Kd.R_newB ho23 (g := gb146) (o := .cells #[.int .i64 a1_0, .int .i64 a1_1, .int .i64 a1_2, .int .i64 a1_3] 26 (0, 0)) (by (with_reducible repeat (first | refine kn_' ?_ _ | refine kd_' ?_ | refine ka_' ?_ _)); exact BK146.out)) (ps_' (by repeat (first | (with_reducible first | exact HB.out | apply pa_' | apply pn_' | apply pd_' | refine pt_' ?_ GE146.out) | exact HB.out))))
           have n1_ := sk_' (blk_below (g := gb146) (o := .cells #[.int .i64 a1_0, .int .i64 a1_1, .int .i64 a1_2, .int .i64 a1_3] 26 (0, 0)) (by (with_reducible repeat (first | refine kn_' ?_ _ | refine kd_' ?_ | refine ka_' ?_ _)); exact BK146.out) hb)
           have n2_ := sk_' (pp_' (by repeat (first | (with_reducible first | exact HB.out | apply pa_' | apply pn_' | apply pd_' | refine pt_' ?_ GE146.out) | exact HB.out)) hb)
           clear BK146
           clear HB
           have HO151 := n0_
           have BK146 := n1_
           have HB := n2_
           clear n0_ n1_ n2_
           clear hb ho23
           refine hK.out _ _ ⟨(kc_' BK146.out 0).trans rfl, (kc_' BK146.out 1).trans rfl, (kc_' BK146.out 2).trans rfl, (kc_' BK146.out 3).trans rfl⟩ (fun hHeld => ?_)
           clear hK K
           refine norm_ (a' := ?_) ?_ ?_
           rotate_left
           ·
            show Act.put _ (some 20) _ = _
            simp only [Act.put, sa_', sz_', sc_', i64_w, i32_w]
            rfl
           refine two_ (i := 4) (j := 6) (Ni := some 24) (Nj := some 26) #[true, true, true, true, true, true, false, false, true, true, true, false, false] #[true, true, true, true, false, true, true, false, true, true, true, false, false] rfl rfl rfl rfl (two_of HT_.out (by kernel_rfl)) (by decide) (by decide) (fun K hK => ?_) (fun K hK => ?_)
           ·
            skip
            refine Kd.R_append_rows_step k26 (w0 := w) w.heap.size (by rfl) (.tmp 20) (.tmp 23) 24 26 (.agg #[(.int .i64 0), (.int .i64 0), (.int .i64 0), (.int .i64 0)]) 32 rfl Try.underlying24 info26 rfl (by decide) (by omega) v150 y149 y152 _ _ _ (fun k_ => k_ ≠ gb146) (fun _ => False) rfl rfl ?aO ?aR (fun _ _ h => h) (fun _ h => h.elim) ?aF ?aB ?aS ?aL ?_
            (case aR => repeat (first | exact (Kd.C_below HR155.out HB.out) | (with_reducible refine xg_' ?_ _) | (with_reducible refine xe_' ?_ _) | (with_reducible refine xf_' ?_)))
            (case aB => exact (by repeat (first | (with_reducible first | exact HB.out | apply pa_' | apply pn_' | apply pd_' | refine pt_' ?_ GE146.out) | exact HB.out)))
            (case aF => exact (fun k_ hk => Kd.freshB (g := gb146) (o := .cells #[.int .i64 a1_0, .int .i64 a1_1, .int .i64 a1_2, .int .i64 a1_3] 26 (0, 0)) (by (with_reducible repeat (first | refine kn_' ?_ _ | refine kd_' ?_ | refine ka_' ?_ _)); exact BK146.out) k_ hk))
            (case aO => exact (by (with_reducible repeat (first | apply ra_' | apply rn_' | apply rd1_')); exact xi_' HO151.out (fun _ hk => hk.2)))
            (case aS => exact (ps_' (by repeat (first | (with_reducible first | exact HB.out | apply pa_' | apply pn_' | apply pd_' | refine pt_' ?_ GE146.out) | exact HB.out))))
            (case aL => have := LMc12.out; omega)
            intro v157 w24 ho hb hg hat
            rw [← Ny156.out] at ho
            have n0_ := sk_' (blk_grown (g := gb146) (o := .cells #[.int .i64 a1_0, .int .i64 a1_1, .int .i64 a1_2, .int .i64 a1_3] 26 (0, 0)) (by (with_reducible repeat (first | refine kn_' ?_ _ | refine kd_' ?_ | refine ka_' ?_ _)); exact BK146.out) hg (Kd.R_away HO151.out (fun _ hk => hk.2)))
            have n1_ := sk_' (hb)
            have n2_ := sk_' (ho)
            clear BK146
            clear HB
            clear HO151
            have BK146 := n0_
            have HB := n1_
            have HO158 := n2_
            clear n0_ n1_ n2_
            clear ho hb hg hat
            refine hK.out _ _ ⟨(kc_' BK146.out 0).trans rfl, (kc_' BK146.out 1).trans rfl, (kc_' BK146.out 2).trans rfl, (kc_' BK146.out 3).trans rfl⟩ (fun hHeld => ?_)
            clear hK K
            refine norm_ (a' := ?_) ?_ ?_
            rotate_left
            ·
             show Act.put _ (some 24) _ = _
             simp only [Act.put, sa_', sz_', sc_', i64_w, i32_w]
             rfl
            refine one_ (i := 6) (N := some 26) #[true, true, true, true, true, true, true, false, true, true, true, false, false] rfl rfl (one_of HT_.out (by kernel_rfl)) (by decide) (fun K hK => ?_)
            refine Kd.R_lit_step k26 _ 26 ?hg (N := 26) ?hd (xs := ([(⟨a1_0, a1_1, a1_2, a1_3⟩ : S26)] : List (S26))) (inner := [.int .i64 a1_0, .int .i64 a1_1, .int .i64 a1_2, .int .i64 a1_3]) (ok := fun _ => True) (okp := fun _ => True) ?hr ?hp (fun _ hk => hk) trivial (Below.refl _ _) (Nat.le_refl _) (by simp) ?_; (case hd => rfl); (case hg => rfl); (case hr => first | (go_simp; done) | (go_simp; rfl)); (case hp => exact (Reps.c4 (show Kd.M k26 _ _ _ (⟨a1_0, a1_1, a1_2, a1_3⟩ : S26) [.int .i64 a1_0, .int .i64 a1_1, .int .i64 a1_2, .int .i64 a1_3] from (k26_mkM _ _ _ (⟨a1_0, a1_1, a1_2, a1_3⟩ : S26) )) (Reps.none _ _)))
            intro v160 w25 ho26 hb hg_ hnew_
            clear hg_ hnew_
            (first | rw [← Ny159.out] at ho26 | (simp only [Int.reduceToNat] at ho26; rw [← Ny159.out] at ho26))
            have n0_ := sk_' (Kd.R_elder' (by (with_reducible repeat (first | apply ra_' | apply rn_' | apply rd1_')); exact HO158.out) (Kd.R_base ho26) hb)
            have n1_ := sk_' (Kd.R_lower (Kd.R_newB (Kd.R_new' ho26 (Kd.R_lt (by (with_reducible repeat (first | apply ra_' | apply rn_' | apply rd1_')); exact HO158.out))) (g := gb146) (o := .cells #[.int .i64 a1_0, .int .i64 a1_1, .int .i64 a1_2, .int .i64 a1_3] 26 (0, 0)) (by (with_reducible repeat (first | refine kn_' ?_ _ | refine kd_' ?_ | refine ka_' ?_ _)); exact BK146.out)) (ps_' (by repeat (first | (with_reducible first | exact HB.out | apply pa_' | apply pn_' | apply pd_' | refine pt_' ?_ GE146.out) | exact HB.out))))
            have n2_ := sk_' (blk_below (g := gb146) (o := .cells #[.int .i64 a1_0, .int .i64 a1_1, .int .i64 a1_2, .int .i64 a1_3] 26 (0, 0)) (by (with_reducible repeat (first | refine kn_' ?_ _ | refine kd_' ?_ | refine ka_' ?_ _)); exact BK146.out) hb)
            have n3_ := sk_' (pp_' (by repeat (first | (with_reducible first | exact HB.out | apply pa_' | apply pn_' | apply pd_' | refine pt_' ?_ GE146.out) | exact HB.out)) hb)
            clear HO158
            clear BK146
            clear HB
            have HO158 := n0_
            have HO161 := n1_
            have BK146 := n2_
            have HB := n3_
            clear n0_ n1_ n2_ n3_
            clear hb ho26
            refine hK.out _ _ ⟨(kc_' BK146.out 0).trans rfl, (kc_' BK146.out 1).trans rfl, (kc_' BK146.out 2).trans rfl, (kc_' BK146.out 3).trans rfl⟩ (fun hHeld => ?_)
            clear hK K
            refine norm_ (a' := ?_) ?_ ?_
            rotate_left
            ·
             show Act.put _ (some 26) _ = _
             simp only [Act.put, sa_', sz_', sc_', i64_w, i32_w]
             rfl
            exact norm_ (by simp only [putAll, Act.put, sa_', sz_', sc_']) (hCont (v150, v157, v160) _ ⟨hHeld, (by (with_reducible repeat (first | apply ra_' | apply rn_' | apply rd1_')); exact xi_' HO158.out (fun _ hk => ⟨hk.2, hk.1⟩)), (by (with_reducible repeat (first | apply ra_' | apply rn_' | apply rd1_')); exact xi_' HO161.out (fun _ hk => ⟨hk.1.2, hk.2⟩)), (by (with_reducible repeat (first | refine kn_' ?_ _ | refine kd_' ?_ | refine ka_' ?_ _)); exact BK146.out), (by repeat (first | (with_reducible first | exact HB.out | apply pa_' | apply pn_' | apply pd_' | refine pt_' ?_ GE146.out) | exact HB.out))⟩)
           skip
           refine Kd.R_lit_step k26 _ 26 ?hg (N := 26) ?hd (xs := ([(⟨a1_0, a1_1, a1_2, a1_3⟩ : S26)] : List (S26))) (inner := [.int .i64 a1_0, .int .i64 a1_1, .int .i64 a1_2, .int .i64 a1_3]) (ok := fun _ => True) (okp := fun _ => True) ?hr ?hp (fun _ hk => hk) trivial (Below.refl _ _) (Nat.le_refl _) (by simp) ?_; (case hd => rfl); (case hg => rfl); (case hr => first | (go_simp; done) | (go_simp; rfl)); (case hp => exact (Reps.c4 (show Kd.M k26 _ _ _ (⟨a1_0, a1_1, a1_2, a1_3⟩ : S26) [.int .i64 a1_0, .int .i64 a1_1, .int .i64 a1_2, .int .i64 a1_3] from (k26_mkM _ _ _ (⟨a1_0, a1_1, a1_2, a1_3⟩ : S26) )) (Reps.none _ _)))
           intro v160 w24 ho25 hb hg_ hnew_
           clear hg_ hnew_
           (first | rw [← Ny159.out] at ho25 | (simp only [Int.reduceToNat] at ho25; rw [← Ny159.out] at ho25))
           have n0_ := sk_' (Kd.R_elder' (by (with_reducible repeat (first | apply ra_' | apply rn_' | apply rd1_')); exact HO151.out) (Kd.R_base ho25) hb)
           have n1_ := sk_' (Kd.R_lower (Kd.R_newB (Kd.R_new' ho25 (Kd.R_lt (by (with_reducible repeat (first | apply ra_' | apply rn_' | apply rd1_')); exact HO151.out))) (g := gb146) (o := .cells #[.int .i64 a1_0, .int .i64 a1_1, .int .i64 a1_2, .int .i64 a1_3] 26 (0, 0)) (by (with_reducible repeat (first | refine kn_' ?_ _ | refine kd_' ?_ | refine ka_' ?_ _)); exact BK146.out)) (ps_' (by repeat (first | (with_reducible first | exact HB.out | apply pa_' | apply pn_' | apply pd_' | refine pt_' ?_ GE146.out) | exact HB.out))))
           have n2_ := sk_' (blk_below (g := gb146) (o := .cells #[.int .i64 a1_0, .int .i64 a1_1, .int .i64 a1_2, .int .i64 a1_3] 26 (0, 0)) (by (with_reducible repeat (first | refine kn_' ?_ _ | refine kd_' ?_ | refine ka_' ?_ _)); exact BK146.out) hb)
           have n3_ := sk_' (pp_' (by repeat (first | (with_reducible first | exact HB.out | apply pa_' | apply pn_' | apply pd_' | refine pt_' ?_ GE146.out) | exact HB.out)) hb)
           clear HO151
           clear BK146
           clear HB
           have HO151 := n0_
           have HO161 := n1_
           have BK146 := n2_
           have HB := n3_
           clear n0_ n1_ n2_ n3_
           clear hb ho25
           refine hK.out _ _ ⟨(kc_' BK146.out 0).trans rfl, (kc_' BK146.out 1).trans rfl, (kc_' BK146.out 2).trans rfl, (kc_' BK146.out 3).trans rfl⟩ (fun hHeld => ?_)
           clear hK K
           refine norm_ (a' := ?_) ?_ ?_
           rotate_left
           ·
            show Act.put _ (some 26) _ = _
            simp only [Act.put, sa_', sz_', sc_', i64_w, i32_w]
            rfl
           refine one_ (i := 4) (N := some 24) #[true, true, true, true, true, true, true, false, true, true, true, false, false] rfl rfl (one_of HT_.out (by kernel_rfl)) (by decide) (fun K hK => ?_)
           refine Kd.R_append_rows_step k26 (w0 := w) w.heap.size (by rfl) (.tmp 20) (.tmp 23) 24 26 (.agg #[(.int .i64 0), (.int .i64 0), (.int .i64 0), (.int .i64 0)]) 32 rfl Try.underlying24 info26 rfl (by decide) (by omega) v150 y149 y152 _ _ _ (fun k_ => some k_ ≠ (v160 : Value).ownBlock ∧ k_ ≠ gb146) (fun _ => False) rfl rfl ?aO ?aR (fun _ _ h => h) (fun _ h => h.elim) ?aF ?aB ?aS ?aL ?_
           (case aR => repeat (first | exact (Kd.C_below HR155.out HB.out) | (with_reducible refine xg_' ?_ _) | (with_reducible refine xe_' ?_ _) | (with_reducible refine xf_' ?_)))
           (case aB => exact (by repeat (first | (with_reducible first | exact HB.out | apply pa_' | apply pn_' | apply pd_' | refine pt_' ?_ GE146.out) | exact HB.out)))
           (case aF => exact (fun k_ hk => ⟨Kd.fresh' (Kd.R_lt (by (with_reducible repeat (first | apply ra_' | apply rn_' | apply rd1_')); exact HO161.out)) k_ hk, Kd.freshB (g := gb146) (o := .cells #[.int .i64 a1_0, .int .i64 a1_1, .int .i64 a1_2, .int .i64 a1_3] 26 (0, 0)) (by (with_reducible repeat (first | refine kn_' ?_ _ | refine kd_' ?_ | refine ka_' ?_ _)); exact BK146.out) k_ hk⟩))
           (case aO => exact (by (with_reducible repeat (first | apply ra_' | apply rn_' | apply rd1_')); exact xi_' HO151.out (fun _ hk => ⟨hk.2, hk.1.2⟩)))
           (case aS => exact (ps_' (by repeat (first | (with_reducible first | exact HB.out | apply pa_' | apply pn_' | apply pd_' | refine pt_' ?_ GE146.out) | exact HB.out))))
           (case aL => have := LMc12.out; omega)
           intro v157 w26 ho hb hg hat
           rw [← Ny156.out] at ho
           have n0_ := sk_' (blk_grown (g := gb146) (o := .cells #[.int .i64 a1_0, .int .i64 a1_1, .int .i64 a1_2, .int .i64 a1_3] 26 (0, 0)) (by (with_reducible repeat (first | refine kn_' ?_ _ | refine kd_' ?_ | refine ka_' ?_ _)); exact BK146.out) hg (Kd.R_away HO151.out (fun _ hk => hk.1.2)))
           have n1_ := sk_' (Kd.R_after (ok := (fun k_ => k_ ≠ gb146)) (by (with_reducible repeat (first | apply ra_' | apply rn_' | apply rd1_')); exact xi_' HO161.out (fun _ hk => ⟨hk.2, hk.1.2⟩)) hg hat)
           have n2_ := sk_' (hb)
           have n3_ := sk_' (ho)
           clear BK146
           clear HO161
           clear HB
           clear HO151
           have BK146 := n0_
           have HO161 := n1_
           have HB := n2_
           have HO158 := n3_
           clear n0_ n1_ n2_ n3_
           clear ho hb hg hat
           refine hK.out _ _ ⟨(kc_' BK146.out 0).trans rfl, (kc_' BK146.out 1).trans rfl, (kc_' BK146.out 2).trans rfl, (kc_' BK146.out 3).trans rfl⟩ (fun hHeld => ?_)
           clear hK K
           refine norm_ (a' := ?_) ?_ ?_
           rotate_left
           ·
            show Act.put _ (some 24) _ = _
            simp only [Act.put, sa_', sz_', sc_', i64_w, i32_w]
            rfl
           exact norm_ (by simp only [putAll, Act.put, sa_', sz_', sc_']) (hCont (v150, v157, v160) _ ⟨hHeld, (by (with_reducible repeat (first | apply ra_' | apply rn_' | apply rd1_')); exact HO158.out), (by (with_reducible repeat (first | apply ra_' | apply rn_' | apply rd1_')); exact xi_' HO161.out (fun _ hk => ⟨hk.2, hk.1⟩)), (by (with_reducible repeat (first | refine kn_' ?_ _ | refine kd_' ?_ | refine ka_' ?_ _)); exact BK146.out), (by repeat (first | (with_reducible first | exact HB.out | apply pa_' | apply pn_' | apply pd_' | refine pt_' ?_ GE146.out) | exact HB.out))⟩)
          skip
          refine Kd.R_lit_step k26 _ 26 ?hg (N := 26) ?hd (xs := ([(⟨a1_0, a1_1, a1_2, a1_3⟩ : S26)] : List (S26))) (inner := [.int .i64 a1_0, .int .i64 a1_1, .int .i64 a1_2, .int .i64 a1_3]) (ok := fun _ => True) (okp := fun _ => True) ?hr ?hp (fun _ hk => hk) trivial (Below.refl _ _) (Nat.le_refl _) (by simp) ?_; (case hd => rfl); (case hg => rfl); (case hr => first | (go_simp; done) | (go_simp; rfl)); (case hp => exact (Reps.c4 (show Kd.M k26 _ _ _ (⟨a1_0, a1_1, a1_2, a1_3⟩ : S26) [.int .i64 a1_0, .int .i64 a1_1, .int .i64 a1_2, .int .i64 a1_3] from (k26_mkM _ _ _ (⟨a1_0, a1_1, a1_2, a1_3⟩ : S26) )) (Reps.none _ _)))
          intro v160 w22 ho23 hb hg_ hnew_
          clear hg_ hnew_
          (first | rw [← Ny159.out] at ho23 | (simp only [Int.reduceToNat] at ho23; rw [← Ny159.out] at ho23))
          have n0_ := sk_' (Kd.R_lower (Kd.R_newB ho23 (g := gb146) (o := .cells #[.int .i64 a1_0, .int .i64 a1_1, .int .i64 a1_2, .int .i64 a1_3] 26 (0, 0)) (by (with_reducible repeat (first | refine kn_' ?_ _ | refine kd_' ?_ | refine ka_' ?_ _)); exact BK146.out)) (ps_' (by repeat (first | (with_reducible first | exact HB.out | apply pa_' | apply pn_' | apply pd_' | refine pt_' ?_ GE146.out) | exact HB.out))))
          have n1_ := sk_' (blk_below (g := gb146) (o := .cells #[.int .i64 a1_0, .int .i64 a1_1, .int .i64 a1_2, .int .i64 a1_3] 26 (0, 0)) (by (with_reducible repeat (first | refine kn_' ?_ _ | refine kd_' ?_ | refine ka_' ?_ _)); exact BK146.out) hb)
          have n2_ := sk_' (pp_' (by repeat (first | (with_reducible first | exact HB.out | apply pa_' | apply pn_' | apply pd_' | refine pt_' ?_ GE146.out) | exact HB.out)) hb)
          clear BK146
          clear HB
          have HO161 := n0_
          have BK146 := n1_
          have HB := n2_
          clear n0_ n1_ n2_
          clear hb ho23
          refine hK.out _ _ ⟨(kc_' BK146.out 0).trans rfl, (kc_' BK146.out 1).trans rfl, (kc_' BK146.out 2).trans rfl, (kc_' BK146.out 3).trans rfl⟩ (fun hHeld => ?_)
          clear hK K
          refine norm_ (a' := ?_) ?_ ?_
          rotate_left
          ·
           show Act.put _ (some 26) _ = _
           simp only [Act.put, sa_', sz_', sc_', i64_w, i32_w]
           rfl
          refine one_ (i := 0) (N := some 20) #[true, true, true, true, false, true, true, false, true, true, true, false, false] rfl rfl (one_of HT_.out (by kernel_rfl)) (by decide) (fun K hK => ?_)
          refine Kd.R_lit_step k26 _ 26 ?hg (N := 20) ?hd (xs := ([] : List (S26))) (inner := []) (ok := fun _ => True) (okp := fun _ => True) ?hr ?hp (fun _ hk => hk) trivial (Below.refl _ _) (Nat.le_refl _) (by simp) ?_; (case hd => rfl); (case hg => rfl); (case hr => first | (go_simp; done) | (go_simp; rfl)); (case hp => exact (Reps.none _ _))
          intro v150 w24 ho25 hb hg_ hnew_
          clear hg_ hnew_
          (first | rw [← Ny149.out] at ho25 | (simp only [Int.reduceToNat] at ho25; rw [← Ny149.out] at ho25))
          have n0_ := sk_' (Kd.R_elder' (by (with_reducible repeat (first | apply ra_' | apply rn_' | apply rd1_')); exact HO161.out) (Kd.R_base ho25) hb)
          have n1_ := sk_' (Kd.R_lower (Kd.R_newB (Kd.R_new' ho25 (Kd.R_lt (by (with_reducible repeat (first | apply ra_' | apply rn_' | apply rd1_')); exact HO161.out))) (g := gb146) (o := .cells #[.int .i64 a1_0, .int .i64 a1_1, .int .i64 a1_2, .int .i64 a1_3] 26 (0, 0)) (by (with_reducible repeat (first | refine kn_' ?_ _ | refine kd_' ?_ | refine ka_' ?_ _)); exact BK146.out)) (ps_' (by repeat (first | (with_reducible first | exact HB.out | apply pa_' | apply pn_' | apply pd_' | refine pt_' ?_ GE146.out) | exact HB.out))))
          have n2_ := sk_' (blk_below (g := gb146) (o := .cells #[.int .i64 a1_0, .int .i64 a1_1, .int .i64 a1_2, .int .i64 a1_3] 26 (0, 0)) (by (with_reducible repeat (first | refine kn_' ?_ _ | refine kd_' ?_ | refine ka_' ?_ _)); exact BK146.out) hb)
          have n3_ := sk_' (pp_' (by repeat (first | (with_reducible first | exact HB.out | apply pa_' | apply pn_' | apply pd_' | refine pt_' ?_ GE146.out) | exact HB.out)) hb)
          clear HO161
          clear BK146
          clear HB
          have HO161 := n0_
          have HO151 := n1_
          have BK146 := n2_
          have HB := n3_
          clear n0_ n1_ n2_ n3_
          clear hb ho25
          refine hK.out _ _ ⟨(kc_' BK146.out 0).trans rfl, (kc_' BK146.out 1).trans rfl, (kc_' BK146.out 2).trans rfl, (kc_' BK146.out 3).trans rfl⟩ (fun hHeld => ?_)
          clear hK K
          refine norm_ (a' := ?_) ?_ ?_
          rotate_left
          ·
           show Act.put _ (some 20) _ = _
           simp only [Act.put, sa_', sz_', sc_', i64_w, i32_w]
           rfl
          refine one_ (i := 4) (N := some 24) #[true, true, true, true, true, true, true, false, true, true, true, false, false] rfl rfl (one_of HT_.out (by kernel_rfl)) (by decide) (fun K hK => ?_)
          refine Kd.R_append_rows_step k26 (w0 := w) w.heap.size (by rfl) (.tmp 20) (.tmp 23) 24 26 (.agg #[(.int .i64 0), (.int .i64 0), (.int .i64 0), (.int .i64 0)]) 32 rfl Try.underlying24 info26 rfl (by decide) (by omega) v150 y149 y152 _ _ _ (fun k_ => some k_ ≠ (v160 : Value).ownBlock ∧ k_ ≠ gb146) (fun _ => False) rfl rfl ?aO ?aR (fun _ _ h => h) (fun _ h => h.elim) ?aF ?aB ?aS ?aL ?_
          (case aR => repeat (first | exact (Kd.C_below HR155.out HB.out) | (with_reducible refine xg_' ?_ _) | (with_reducible refine xe_' ?_ _) | (with_reducible refine xf_' ?_)))
          (case aB => exact (by repeat (first | (with_reducible first | exact HB.out | apply pa_' | apply pn_' | apply pd_' | refine pt_' ?_ GE146.out) | exact HB.out)))
          (case aF => exact (fun k_ hk => ⟨Kd.fresh' (Kd.R_lt (by (with_reducible repeat (first | apply ra_' | apply rn_' | apply rd1_')); exact HO161.out)) k_ hk, Kd.freshB (g := gb146) (o := .cells #[.int .i64 a1_0, .int .i64 a1_1, .int .i64 a1_2, .int .i64 a1_3] 26 (0, 0)) (by (with_reducible repeat (first | refine kn_' ?_ _ | refine kd_' ?_ | refine ka_' ?_ _)); exact BK146.out) k_ hk⟩))
          (case aO => exact (by (with_reducible repeat (first | apply ra_' | apply rn_' | apply rd1_')); exact xi_' HO151.out (fun _ hk => ⟨hk.1.2, hk.2⟩)))
          (case aS => exact (ps_' (by repeat (first | (with_reducible first | exact HB.out | apply pa_' | apply pn_' | apply pd_' | refine pt_' ?_ GE146.out) | exact HB.out))))
          (case aL => have := LMc12.out; omega)
          intro v157 w26 ho hb hg hat
          rw [← Ny156.out] at ho
          have n0_ := sk_' (blk_grown (g := gb146) (o := .cells #[.int .i64 a1_0, .int .i64 a1_1, .int .i64 a1_2, .int .i64 a1_3] 26 (0, 0)) (by (with_reducible repeat (first | refine kn_' ?_ _ | refine kd_' ?_ | refine ka_' ?_ _)); exact BK146.out) hg (Kd.R_away HO151.out (fun _ hk => hk.2)))
          have n1_ := sk_' (Kd.R_after (ok := (fun k_ => k_ ≠ gb146)) (by (with_reducible repeat (first | apply ra_' | apply rn_' | apply rd1_')); exact xi_' HO161.out (fun _ hk => ⟨hk.1.2, hk.2⟩)) hg hat)
          have n2_ := sk_' (hb)
          have n3_ := sk_' (ho)
          clear BK146
          clear HO161
          clear HB
          clear HO151
          have BK146 := n0_
          have HO161 := n1_
          have HB := n2_
          have HO158 := n3_
          clear n0_ n1_ n2_ n3_
          clear ho hb hg hat
          refine hK.out _ _ ⟨(kc_' BK146.out 0).trans rfl, (kc_' BK146.out 1).trans rfl, (kc_' BK146.out 2).trans rfl, (kc_' BK146.out 3).trans rfl⟩ (fun hHeld => ?_)
          clear hK K
          refine norm_ (a' := ?_) ?_ ?_
          rotate_left
          ·
           show Act.put _ (some 24) _ = _
           simp only [Act.put, sa_', sz_', sc_', i64_w, i32_w]
           rfl
          exact norm_ (by simp only [putAll, Act.put, sa_', sz_', sc_']) (hCont (v150, v157, v160) _ ⟨hHeld, (by (with_reducible repeat (first | apply ra_' | apply rn_' | apply rd1_')); exact HO158.out), (by (with_reducible repeat (first | apply ra_' | apply rn_' | apply rd1_')); exact xi_' HO161.out (fun _ hk => ⟨hk.2, hk.1⟩)), (by (with_reducible repeat (first | refine kn_' ?_ _ | refine kd_' ?_ | refine ka_' ?_ _)); exact BK146.out), (by repeat (first | (with_reducible first | exact HB.out | apply pa_' | apply pn_' | apply pd_' | refine pt_' ?_ GE146.out) | exact HB.out))⟩)
         rintro ⟨v150, v157, v160⟩ w27 ⟨hS_, h0_, h1_, h2_, h3_⟩
         have n0_ : Aside0 (Kd.R k26 26 w27 w.heap.size (fun k_ => some k_ ≠ (v160 : Value).ownBlock ∧ k_ ≠ gb146) v157 y156) := ⟨h0_⟩
         have n1_ : Aside0 (Kd.R k26 26 w27 w.heap.size (fun k_ => some k_ ≠ (v157 : Value).ownBlock ∧ k_ ≠ gb146) v160 y159) := ⟨h1_⟩
         have n2_ : Aside0 (w27.heap[gb146]? = some (.cells #[.int .i64 a1_0, .int .i64 a1_1, .int .i64 a1_2, .int .i64 a1_3] 26 (0, 0))) := ⟨h2_⟩
         have n3_ : Aside0 (Below w.heap.size w w27) := ⟨h3_⟩
         clear BK146
         clear HB
         clear h0_ h1_ h2_ h3_
         have HO158 := n0_
         have HO161 := n1_
         have BK146 := n2_
         have HB := n3_
         clear n0_ n1_ n2_ n3_
         have hHeld : w27.cell? ⟨gb146, 0, none⟩ = some (.int .i64 a1_0) ∧ w27.cell? ⟨gb146, 1, none⟩ = some (.int .i64 a1_1) ∧ w27.cell? ⟨gb146, 2, none⟩ = some (.int .i64 a1_2) ∧ w27.cell? ⟨gb146, 3, none⟩ = some (.int .i64 a1_3) := hS_
         obtain ⟨Ao29, co29, eo29⟩ := Kd.R_slice HO161.out
         (first | subst eo29 | (injection eo29 with f1_ f2_ f3_; have f4_ := f1_.symm; have f5_ := f3_.symm; clear f1_ f2_ f3_; subst f4_; subst f5_))
         refine norm_ (a' := ?_) ?_ ?_
         rotate_left
         ·
          simp only [putAll, Act.put, sa_', sz_', sc_']
          rfl
         refine one_ (i := 7) (N := some 27) #[true, true, true, true, true, true, true, true, true, true, true, false, false] rfl rfl (one_of HT_.out (by kernel_rfl)) (by decide) (fun K hK => ?_)
         refine Kd.R_append_rows_step k26 (w0 := w) w.heap.size (by rfl) (.tmp 24) (.tmp 26) 24 26 (.agg #[(.int .i64 0), (.int .i64 0), (.int .i64 0), (.int .i64 0)]) 32 rfl Try.underlying24 info26 rfl (by decide) (by omega) v157 y156 y159 _ _ _ (fun k_ => some k_ ≠ (.slice Ao29 y159.length co29 : Value).ownBlock ∧ k_ ≠ gb146) (fun _ => False) rfl rfl ?aO ?aR (fun _ _ h => h) (fun _ h => h.elim) ?aF ?aB ?aS ?aL ?_
         (case aR => repeat (first | exact (xr_' HO161.out).2.2 | (with_reducible refine xg_' ?_ _) | (with_reducible refine xe_' ?_ _) | (with_reducible refine xf_' ?_)))
         (case aB => exact (by repeat (first | (with_reducible first | exact HB.out | apply pa_' | apply pn_' | apply pd_' | refine pt_' ?_ GE146.out) | exact HB.out)))
         (case aF => exact (fun k_ hk => ⟨Kd.fresh' (Kd.R_lt (by (with_reducible repeat (first | apply ra_' | apply rn_' | apply rd1_')); exact HO161.out)) k_ hk, Kd.freshB (g := gb146) (o := .cells #[.int .i64 a1_0, .int .i64 a1_1, .int .i64 a1_2, .int .i64 a1_3] 26 (0, 0)) (by (with_reducible repeat (first | refine kn_' ?_ _ | refine kd_' ?_ | refine ka_' ?_ _)); exact BK146.out) k_ hk⟩))
         (case aO => exact (by (with_reducible repeat (first | apply ra_' | apply rn_' | apply rd1_')); exact HO158.out))
         (case aS => exact (ps_' (by repeat (first | (with_reducible first | exact HB.out | apply pa_' | apply pn_' | apply pd_' | refine pt_' ?_ GE146.out) | exact HB.out))))
         (case aL => have := LMc13.out; omega)
         intro v163 w28 ho hb hg hat
         rw [← Ny162.out] at ho
         have n0_ := sk_' (blk_grown (g := gb146) (o := .cells #[.int .i64 a1_0, .int .i64 a1_1, .int .i64 a1_2, .int .i64 a1_3] 26 (0, 0)) (by (with_reducible repeat (first | refine kn_' ?_ _ | refine kd_' ?_ | refine ka_' ?_ _)); exact BK146.out) hg (Kd.R_away HO158.out (fun _ hk => hk.2)))
         have n1_ := sk_' (Kd.R_after (ok := (fun k_ => k_ ≠ gb146)) (by (with_reducible repeat (first | apply ra_' | apply rn_' | apply rd1_')); exact xi_' HO161.out (fun _ hk => ⟨hk.2, hk.1⟩)) hg hat)
         have n2_ := sk_' (hb)
         have n3_ := sk_' (ho)
         clear BK146
         clear HO161
         clear HB
         clear HO158
         have BK146 := n0_
         have HO161 := n1_
         have HB := n2_
         have HO164 := n3_
         clear n0_ n1_ n2_ n3_
         clear ho hb hg hat
         refine hK.out _ _ ⟨(kc_' BK146.out 0).trans rfl, (kc_' BK146.out 1).trans rfl, (kc_' BK146.out 2).trans rfl, (kc_' BK146.out 3).trans rfl⟩ (fun hHeld => ?_)
         clear hK K
         refine norm_ (a' := ?_) ?_ ?_
         rotate_left
         ·
          show Act.put _ (some 27) _ = _
          simp only [Act.put, sa_', sz_', sc_', i64_w, i32_w]
          rfl
         refine one_ (i := 11) (N := some 31) #[true, true, true, true, true, true, true, true, true, true, true, true, false] rfl rfl (one_of HT_.out (by kernel_rfl)) (by decide) (fun K hK => ?_)
         refine Kd.R_append_rows_step k26 (w0 := w) w.heap.size (by rfl) (.tmp 27) (.tmp 30) 24 26 (.agg #[(.int .i64 0), (.int .i64 0), (.int .i64 0), (.int .i64 0)]) 32 rfl Try.underlying24 info26 rfl (by decide) (by omega) v163 y162 y165 _ _ _ (fun k_ => some k_ ≠ (.slice Ao29 y159.length co29 : Value).ownBlock ∧ k_ ≠ gb146) (fun _ => False) rfl rfl ?aO ?aR (fun _ _ h => h) (fun _ h => h.elim) ?aF ?aB ?aS ?aL ?_
         (case aR => repeat (first | exact (Kd.C_below HR168.out HB.out) | (with_reducible refine xg_' ?_ _) | (with_reducible refine xe_' ?_ _) | (with_reducible refine xf_' ?_)))
         (case aB => exact (by repeat (first | (with_reducible first | exact HB.out | apply pa_' | apply pn_' | apply pd_' | refine pt_' ?_ GE146.out) | exact HB.out)))
         (case aF => exact (fun k_ hk => ⟨Kd.fresh' (Kd.R_lt (by (with_reducible repeat (first | apply ra_' | apply rn_' | apply rd1_')); exact HO161.out)) k_ hk, Kd.freshB (g := gb146) (o := .cells #[.int .i64 a1_0, .int .i64 a1_1, .int .i64 a1_2, .int .i64 a1_3] 26 (0, 0)) (by (with_reducible repeat (first | refine kn_' ?_ _ | refine kd_' ?_ | refine ka_' ?_ _)); exact BK146.out) k_ hk⟩))
         (case aO => exact (by (with_reducible repeat (first | apply ra_' | apply rn_' | apply rd1_')); exact HO164.out))
         (case aS => exact (ps_' (by repeat (first | (with_reducible first | exact HB.out | apply pa_' | apply pn_' | apply pd_' | refine pt_' ?_ GE146.out) | exact HB.out))))
         (case aL => have := LMc16.out; omega)
         intro v170 w30 ho hb hg hat
         rw [← Ny169.out] at ho
         have n0_ := sk_' (blk_grown (g := gb146) (o := .cells #[.int .i64 a1_0, .int .i64 a1_1, .int .i64 a1_2, .int .i64 a1_3] 26 (0, 0)) (by (with_reducible repeat (first | refine kn_' ?_ _ | refine kd_' ?_ | refine ka_' ?_ _)); exact BK146.out) hg (Kd.R_away HO164.out (fun _ hk => hk.2)))
         have n1_ := sk_' (Kd.R_after (ok := (fun k_ => k_ ≠ gb146)) (by (with_reducible repeat (first | apply ra_' | apply rn_' | apply rd1_')); exact HO161.out) hg hat)
         have n2_ := sk_' (hb)
         have n3_ := sk_' (ho)
         clear BK146
         clear HO161
         clear HB
         clear HO164
         have BK146 := n0_
         have HO161 := n1_
         have HB := n2_
         have HO171 := n3_
         clear n0_ n1_ n2_ n3_
         clear ho hb hg hat
         refine hK.out _ _ ⟨(kc_' BK146.out 0).trans rfl, (kc_' BK146.out 1).trans rfl, (kc_' BK146.out 2).trans rfl, (kc_' BK146.out 3).trans rfl⟩ (fun hHeld => ?_)
         clear hK K
         refine norm_ (a' := ?_) ?_ ?_
         rotate_left
         ·
          show Act.put _ (some 31) _ = _
          simp only [Act.put, sa_', sz_', sc_', i64_w, i32_w]
          rfl
         refine pure_ (i := 12) (N := some 4) (v := ?_) (a' := ?_) #[true, true, true, true, true, true, true, true, true, true, true, true, true] rfl rfl (any_of HT_.out (by kernel_rfl)) (fun _ _ _ h => h) (Or.inl ⟨by rfl, ?_⟩) ?_ ?_
         rotate_left
         ·
          intro w'
          go_simp
          with_reducible rfl
         rotate_left
         ·
          simp only [Act.put, sa_', sz_', sc_', i64_w, i32_w]
          rfl
         refine done_ (done_of HT_.out (by kernel_rfl)) ?_
         try go_wp2
         go_ret
         exact ⟨_, by first | rfl | (simp [errW_none, errW_some] <;> rfl) | (simp [*, errW_none, errW_some] <;> rfl), by (with_reducible repeat (first | apply ra_' | apply rn_' | apply rd1_')); exact xi_' HO171.out (fun _ hk => trivial), by repeat (first | (with_reducible first | exact HB.out | apply pa_' | apply pn_' | apply pd_' | refine pt_' ?_ GE146.out) | exact HB.out)⟩
        rw [if_neg c16] at H
        exact absurd H (by simp)
       rw [if_neg c13] at H
       exact absurd H (by simp)
      rw [if_neg c12] at H
      exact absurd H (by simp)
     rw [if_neg c11] at H
     exact absurd H (by simp)
    rw [if_neg c5] at H
    exact absurd H (by simp)
   rw [if_neg c4] at H
   have c4b0 : decide (x5_1 < (l0.length : Int)) = false := decide_eq_false c4
   clear c4
   obtain ⟨y172, hy172⟩ : ∃ y_ : List (S26), y_ = (([] : List (S26))) := ⟨_, rfl⟩
   replace H : (if 0 ≤ x5_1 then (if x5_1 ≤ (l0.length : Int) then ((some (l0.take (x5_1 : Int).toNat : List (S26))).bind fun y175 => (if y172.length + y175.length < 4398046511104 then ((some (y172 ++ y175 : List (S26))).bind fun y179 => ((some (([(⟨a1_0, a1_1, a1_2, a1_3⟩ : S26)] : List (S26)) : List (S26))).bind fun y182 => (if y179.length + y182.length < 4398046511104 then ((some (y179 ++ y182 : List (S26))).bind fun y185 => ((some (l0.drop (x5_1 : Int).toNat : List (S26))).bind fun y188 => (if y185.length + y188.length < 4398046511104 then (some (y185 ++ y188)) else (none)))) else (none)))) else (none))) else (none)) else (none)) = some r := by first | (rw [hy172]; with_reducible exact H) | (have H2_ := (Option.bind_some _ _).symm.trans H; rw [hy172]; with_reducible exact H2_) | (have H2_ := (Option.bind_some _ _).symm.trans H; with_reducible exact H2_) | with_reducible exact H | (rw [hy172]; exact H) | exact H
   have Ny172 := sk_' hy172
   clear hy172
   by_cases c31 : 0 ≤ x5_1
   ·
    rw [if_pos c31] at H
    have c31b0 := eq_true c31
    have c31b1 : decide (0 ≤ x5_1) = true := decide_eq_true c31
    clear c31
    by_cases c32 : x5_1 ≤ (l0.length : Int)
    ·
     rw [if_pos c32] at H
     have c32b0 := eq_true c32
     have c32b1 : decide (x5_1 ≤ (l0.length : Int)) = true := decide_eq_true c32
     clear c32
     obtain ⟨y175, hy175⟩ : ∃ y_ : List (S26), y_ = (l0.take (x5_1 : Int).toNat) := ⟨_, rfl⟩
     replace H : (if y172.length + y175.length < 4398046511104 then ((some (y172 ++ y175 : List (S26))).bind fun y179 => ((some (([(⟨a1_0, a1_1, a1_2, a1_3⟩ : S26)] : List (S26)) : List (S26))).bind fun y182 => (if y179.length + y182.length < 4398046511104 then ((some (y179 ++ y182 : List (S26))).bind fun y185 => ((some (l0.drop (x5_1 : Int).toNat : List (S26))).bind fun y188 => (if y185.length + y188.length < 4398046511104 then (some (y185 ++ y188)) else (none)))) else (none)))) else (none)) = some r := by first | (rw [hy175]; with_reducible exact H) | (have H2_ := (Option.bind_some _ _).symm.trans H; rw [hy175]; with_reducible exact H2_) | (have H2_ := (Option.bind_some _ _).symm.trans H; with_reducible exact H2_) | with_reducible exact H | (rw [hy175]; exact H) | exact H
     have Ny175 := sk_' hy175
     clear hy175
     by_cases c33 : y172.length + y175.length < 4398046511104
     ·
      rw [if_pos c33] at H
      have LMc33 := sk_' c33
      clear c33
      obtain ⟨y179, hy179⟩ : ∃ y_ : List (S26), y_ = (y172 ++ y175) := ⟨_, rfl⟩
      replace H : ((some (([(⟨a1_0, a1_1, a1_2, a1_3⟩ : S26)] : List (S26)) : List (S26))).bind fun y182 => (if y179.length + y182.length < 4398046511104 then ((some (y179 ++ y182 : List (S26))).bind fun y185 => ((some (l0.drop (x5_1 : Int).toNat : List (S26))).bind fun y188 => (if y185.length + y188.length < 4398046511104 then (some (y185 ++ y188)) else (none)))) else (none))) = some r := by first | (rw [hy179]; with_reducible exact H) | (have H2_ := (Option.bind_some _ _).symm.trans H; rw [hy179]; with_reducible exact H2_) | (have H2_ := (Option.bind_some _ _).symm.trans H; with_reducible exact H2_) | with_reducible exact H | (rw [hy179]; exact H) | exact H
      have Ny179 := sk_' hy179
      clear hy179
      obtain ⟨y182, hy182⟩ : ∃ y_ : List (S26), y_ = (([(⟨a1_0, a1_1, a1_2, a1_3⟩ : S26)] : List (S26))) := ⟨_, rfl⟩
      replace H : (if y179.length + y182.length < 4398046511104 then ((some (y179 ++ y182 : List (S26))).bind fun y185 => ((some (l0.drop (x5_1 : Int).toNat : List (S26))).bind fun y188 => (if y185.length + y188.length < 4398046511104 then (some (y185 ++ y188)) else (none)))) else (none)) = some r := by first | (rw [hy182]; with_reducible exact H) | (have H2_ := (Option.bind_some _ _).symm.trans H; rw [hy182]; with_reducible exact H2_) | (have H2_ := (Option.bind_some _ _).symm.trans H; with_reducible exact H2_) | with_reducible exact H | (rw [hy182]; exact H) | exact H
      have Ny182 := sk_' hy182
      clear hy182
      by_cases c34 : y179.length + y182.length < 4398046511104
      ·
       rw [if_pos c34] at H
       have LMc34 := sk_' c34
       clear c34
       obtain ⟨y185, hy185⟩ : ∃ y_ : List (S26), y_ = (y179 ++ y182) := ⟨_, rfl⟩
       replace H : ((some (l0.drop (x5_1 : Int).toNat : List (S26))).bind fun y188 => (if y185.length + y188.length < 4398046511104 then (some (y185 ++ y188)) else (none))) = some r := by first | (rw [hy185]; with_reducible exact H) | (have H2_ := (Option.bind_some _ _).symm.trans H; rw [hy185]; with_reducible exact H2_) | (have H2_ := (Option.bind_some _ _).symm.trans H; with_reducible exact H2_) | with_reducible exact H | (rw [hy185]; exact H) | exact H
       have Ny185 := sk_' hy185
       clear hy185
       have c35b0 := eq_true (od_' (by first | (with_reducible assumption) | assumption) : 0 ≤ x5_1)
       have c36b0 := eq_true (od_' (by first | (with_reducible assumption) | assumption) : x5_1 ≤ (l0.length : Int))
       obtain ⟨y188, hy188⟩ : ∃ y_ : List (S26), y_ = (l0.drop (x5_1 : Int).toNat) := ⟨_, rfl⟩
       replace H : (if y185.length + y188.length < 4398046511104 then (some (y185 ++ y188)) else (none)) = some r := by first | (rw [hy188]; with_reducible exact H) | (have H2_ := (Option.bind_some _ _).symm.trans H; rw [hy188]; with_reducible exact H2_) | (have H2_ := (Option.bind_some _ _).symm.trans H; with_reducible exact H2_) | with_reducible exact H | (rw [hy188]; exact H) | exact H
       have Ny188 := sk_' hy188
       clear hy188
       by_cases c37 : y185.length + y188.length < 4398046511104
       ·
        rw [if_pos c37] at H
        have LMc37 := sk_' c37
        clear c37
        obtain ⟨y192, hy192⟩ : ∃ y_ : List (S26), y_ = (y185 ++ y188) := ⟨_, rfl⟩
        replace H : (some y192) = some r := by first | (rw [hy192]; with_reducible exact H) | (have H2_ := (Option.bind_some _ _).symm.trans H; rw [hy192]; with_reducible exact H2_) | (have H2_ := (Option.bind_some _ _).symm.trans H; with_reducible exact H2_) | with_reducible exact H | (rw [hy192]; exact H) | exact H
        have Ny192 := sk_' hy192
        clear hy192
        obtain rfl := Option.some.inj H
        try go_wp2
        have n0_ := sk_' (kd_' BK146.out)
        have n1_ := sk_' (pd_' HB.out)
        clear BK146
        clear HB
        have BK146 := n0_
        have HB := n1_
        clear n0_ n1_
        have hq0_ : True := trivial
        go_quiet (fail)
        have nBK146_ := sk_' (kn_' (w := wr) BK146.out nq)
        have nHB_ := sk_' (pn_' (W := wr) ⟨HB.out.os, HB.out.tape, HB.out.output, HB.out.size, HB.out.block⟩ nq)
        clear BK146 HB hq0_
        have BK146 := nBK146_
        have HB := nHB_
        clear nBK146_ nHB_
        generalize wr.drewN nq = w38 at BK146 HB ⊢
        try go_wp2
        have n0_ := sk_' (kd_' BK146.out)
        have n1_ := sk_' (pd_' HB.out)
        clear BK146
        clear HB
        have BK146 := n0_
        have HB := n1_
        clear n0_ n1_
        have q40 : (x5_1 : Int) ≤ ((l0.length : Int) : Int) := od_' (by first | (with_reducible assumption) | assumption)
        obtain ⟨i040, hi040, _, hsz40, _⟩ := info_parts info26
        have hroom40 : l0.length ≤ c0 := HC0.out
        have hC40 : Kd.C k26 _ A0 l0.length l0 := HR0.out
        have hcut40 := cut_to (P := Try.prog) 24 26 .i64 Try.underlying24 hi040 A0 l0.length c0 x5_1 (od_' (by first | (with_reducible assumption) | assumption)) q40 hroom40
        have hr40 := Kd.C_take (m := (x5_1 : Int).toNat) hC40 (by omega)
        have hy40 : y175.length = (x5_1 : Int).toNat := (by rw [Ny175.out, xt_']; omega)
        rw [← Ny175.out] at hr40
        rw [← hy40] at hcut40
        have HR178 := sk_' hr40
        have HC178 := sk_' (show y175.length ≤ c0 from by omega)
        clear hr40 hC40 hroom40 hi040 hsz40
        have KY40 := sk_' hy40
        clear hy40
        replace q40 := eq_true q40
        have q41 : (x5_1 : Int) ≤ ((l0.length : Int) : Int) := od_' (by first | (with_reducible assumption) | assumption)
        obtain ⟨i041, hi041, _, hsz41, _⟩ := info_parts info26
        have hroom41 : l0.length ≤ c0 := HC0.out
        have hC41 : Kd.C k26 _ A0 l0.length l0 := HR0.out
        have q041 : (0 : Int) ≤ (x5_1 : Int) := od_' (by first | (with_reducible assumption) | assumption)
        have hcut41 := cut_from (P := Try.prog) 24 26 .i64 Try.underlying24 hi041 4 hsz41 A0 l0.length c0 x5_1 q041 q41
        have hr41 := Kd.C_drop (m := (x5_1 : Int).toNat) (c := c0) hC41 (by omega) hroom41
        obtain ⟨A41, hA41⟩ : ∃ A1, A1 = (if c0 = (x5_1 : Int).toNat then A0 else (A0 : Option Addr).map (·.add ((x5_1 : Int).toNat * 4))) := ⟨_, rfl⟩
        obtain ⟨c41, hc41⟩ : ∃ c1, c1 = c0 - (x5_1 : Int).toNat := ⟨_, rfl⟩
        have hy41 : y188.length = l0.length - (x5_1 : Int).toNat := (by rw [Ny188.out, xd_'] <;> omega)
        rw [show (l0).drop (x5_1 : Int).toNat = y188 from Ny188.out.symm] at hr41
        replace hr41 : Kd.C k26 _ A41 y188.length y188 := (by rw [hA41]; exact hr41)
        rw [← hy41, ← hA41, ← hc41] at hcut41
        have HR191 := sk_' hr41
        have HC191 := sk_' (show y188.length ≤ c41 from by rw [hy41, hc41]; exact Nat.sub_le_sub_right hroom41 _)
        clear hr41 hC41 hroom41 hi041 hsz41 hc41
        have KY41 := sk_' hy41
        have KA41 := sk_' hA41
        clear hy41 hA41
        replace q41 := eq_true q41
        refine start_ (n := 13) (S := fun w' => w'.cell? ⟨gb146, 0, none⟩ = some (.int .i64 a1_0) ∧ w'.cell? ⟨gb146, 1, none⟩ = some (.int .i64 a1_1) ∧ w'.cell? ⟨gb146, 2, none⟩ = some (.int .i64 a1_2) ∧ w'.cell? ⟨gb146, 3, none⟩ = some (.int .i64 a1_3)) (ds := []) #[false, false, false, false, false, false, false, false, false, false, false, false, false] (by kernel_rfl) rfl rfl ⟨(kc_' BK146.out 0).trans rfl, (kc_' BK146.out 1).trans rfl, (kc_' BK146.out 2).trans rfl, (kc_' BK146.out 3).trans rfl⟩ (fun hHeld => ?_); refine with_tabW spec_l8Put.tab4 spec_l8Put.bits4 (fun HT_ HW_ => ?_)
        generalize w38.drew = w39 at BK146 HB HR178 HR191 hHeld ⊢
        refine pure_ (i := 1) (N := some 21) (v := ?_) (a' := ?_) #[false, true, false, false, false, false, false, false, false, false, false, false, false] rfl rfl (any_of HT_.out (by kernel_rfl)) (fun _ _ _ h => h) (Or.inl ⟨by rfl, ?_⟩) ?_ ?_
        rotate_left
        ·
         intro w'
         go_simp
         with_reducible rfl
        rotate_left
        ·
         simp only [Act.put, sa_', sz_', sc_', i64_w, i32_w]
         rfl
        refine pure_ (i := 2) (N := some 22) (v := ?_) (a' := ?_) #[false, true, true, false, false, false, false, false, false, false, false, false, false] rfl rfl (any_of HT_.out (by kernel_rfl)) (fun _ _ _ h => h) (Or.inl ⟨by rfl, ?_⟩) ?_ ?_
        rotate_left
        ·
         intro w'
         go_simp
         with_reducible rfl
        rotate_left
        ·
         simp only [Act.put, sa_', sz_', sc_', i64_w, i32_w]
         rfl
        refine pure_ (i := 3) (N := some 23) (v := ?_) (a' := ?_) #[false, true, true, true, false, false, false, false, false, false, false, false, false] rfl rfl (any_of HT_.out (by kernel_rfl)) (fun _ _ _ h => h) (Or.inl ⟨by rfl, ?_⟩) ?_ ?_
        rotate_left
        ·
         intro w'
         go_simp
         with_reducible rfl
        rotate_left
        ·
         simp only [Act.put, sa_', sz_', sc_', i64_w, i32_w]
         rfl
        refine pure_ (i := 8) (N := some 28) (v := ?_) (a' := ?_) #[false, true, true, true, false, false, false, false, true, false, false, false, false] rfl rfl (any_of HT_.out (by kernel_rfl)) (fun _ _ _ h => h) (Or.inl ⟨by rfl, ?_⟩) ?_ ?_
        rotate_left
        ·
         intro w'
         go_simp
         with_reducible rfl
        rotate_left
        ·
         simp only [Act.put, sa_', sz_', sc_', i64_w, i32_w]
         rfl
        refine pure_ (i := 9) (N := some 29) (v := ?_) (a' := ?_) #[false, true, true, true, false, false, false, false, true, true, false, false, false] rfl rfl (any_of HT_.out (by kernel_rfl)) (fun _ _ _ h => h) (Or.inl ⟨by rfl, ?_⟩) ?_ ?_
        rotate_left
        ·
         intro w'
         go_simp
         with_reducible rfl
        rotate_left
        ·
         simp only [Act.put, sa_', sz_', sc_', i64_w, i32_w]
         rfl
        refine pure_ (i := 10) (N := some 30) (v := ?_) (a' := ?_) #[false, true, true, true, false, false, false, false, true, true, true, false, false] rfl rfl (any_of HT_.out (by kernel_rfl)) (fun _ _ _ h => h) (Or.inl ⟨by rfl, ?_⟩) ?_ ?_
        rotate_left
        ·
         intro w'
         go_simp
         with_reducible rfl
        rotate_left
        ·
         simp only [Act.put, sa_', sz_', sc_', i64_w, i32_w]
         rfl
        refine take_ (i := 5) (N := some 25) (v := ?_) (a' := ?_) #[false, true, true, true, false, true, false, false, true, true, true, false, false] rfl rfl (take_ofW HT_.out HW_.out (by kernel_rfl)) (fun _ _ _ h => h) (Or.inl ⟨by rfl, ?_⟩) hHeld ?_ ?_
        rotate_left
        ·
         rintro w' ⟨s0, s1, s2, s3⟩
         go_simp
         with_reducible rfl
        rotate_left
        ·
         simp only [Act.put, sa_', sz_', sc_', i64_w, i32_w]
         rfl
        refine join_ (σ := Value × Value × Value) 3 #[true, true, true, true, true, true, true, false, true, true, true, false, false] (fun s_ => [(20, s_.1), (24, s_.2.1), (26, s_.2.2)]) (fun s_ w' => (w'.cell? ⟨gb146, 0, none⟩ = some (.int .i64 a1_0) ∧ w'.cell? ⟨gb146, 1, none⟩ = some (.int .i64 a1_1) ∧ w'.cell? ⟨gb146, 2, none⟩ = some (.int .i64 a1_2) ∧ w'.cell? ⟨gb146, 3, none⟩ = some (.int .i64 a1_3)) ∧ (Kd.R k26 26 w' w.heap.size (fun k_ => some k_ ≠ (s_.2.2 : Value).ownBlock ∧ k_ ≠ gb146) s_.2.1 y179) ∧ (Kd.R k26 26 w' w.heap.size (fun k_ => some k_ ≠ (s_.2.1 : Value).ownBlock ∧ k_ ≠ gb146) s_.2.2 y182) ∧ (w'.heap[gb146]? = some (.cells #[.int .i64 a1_0, .int .i64 a1_1, .int .i64 a1_2, .int .i64 a1_3] 26 (0, 0))) ∧ (Below w.heap.size w w')) ?_ ?_
        rotate_left
        ·
         intro hCont
         refine two_ (i := 0) (j := 6) (Ni := some 20) (Nj := some 26) #[true, true, true, true, false, true, false, false, true, true, true, false, false] #[false, true, true, true, false, true, true, false, true, true, true, false, false] rfl rfl rfl rfl (two_of HT_.out (by kernel_rfl)) (by decide) (by decide) (fun K hK => ?_) (fun K hK => ?_)
         ·
          skip
          refine Kd.R_lit_step k26 _ 26 ?hg (N := 20) ?hd (xs := ([] : List (S26))) (inner := []) (ok := fun _ => True) (okp := fun _ => True) ?hr ?hp (fun _ hk => hk) trivial (Below.refl _ _) (Nat.le_refl _) (by simp) ?_; (case hd => rfl); (case hg => rfl); (case hr => first | (go_simp; done) | (go_simp; rfl)); (case hp => exact (Reps.none _ _))
          intro v173 w42 ho43 hb hg_ hnew_
          clear hg_ hnew_
          (first | rw [← Ny172.out] at ho43 | (simp only [Int.reduceToNat] at ho43; rw [← Ny172.out] at ho43))
          have n0_ := sk_' (Kd.R_lower (Kd.R_newB ho43 (g := gb146) (o := .cells #[.int .i64 a1_0, .int .i64 a1_1, .int .i64 a1_2, .int .i64 a1_3] 26 (0, 0)) (by (with_reducible repeat (first | refine kn_' ?_ _ | refine kd_' ?_ | refine ka_' ?_ _)); exact BK146.out)) (ps_' (by repeat (first | (with_reducible first | exact HB.out | apply pa_' | apply pn_' | apply pd_' | refine pt_' ?_ GE146.out) | exact HB.out))))
          have n1_ := sk_' (blk_below (g := gb146) (o := .cells #[.int .i64 a1_0, .int .i64 a1_1, .int .i64 a1_2, .int .i64 a1_3] 26 (0, 0)) (by (with_reducible repeat (first | refine kn_' ?_ _ | refine kd_' ?_ | refine ka_' ?_ _)); exact BK146.out) hb)
          have n2_ := sk_' (pp_' (by repeat (first | (with_reducible first | exact HB.out | apply pa_' | apply pn_' | apply pd_' | refine pt_' ?_ GE146.out) | exact HB.out)) hb)
          clear BK146
          clear HB
          have HO174 := n0_
          have BK146 := n1_
          have HB := n2_
          clear n0_ n1_ n2_
          clear hb ho43
          refine hK.out _ _ ⟨(kc_' BK146.out 0).trans rfl, (kc_' BK146.out 1).trans rfl, (kc_' BK146.out 2).trans rfl, (kc_' BK146.out 3).trans rfl⟩ (fun hHeld => ?_)
          clear hK K
          refine norm_ (a' := ?_) ?_ ?_
          rotate_left
          ·
           show Act.put _ (some 20) _ = _
           simp only [Act.put, sa_', sz_', sc_', i64_w, i32_w]
           rfl
          refine two_ (i := 4) (j := 6) (Ni := some 24) (Nj := some 26) #[true, true, true, true, true, true, false, false, true, true, true, false, false] #[true, true, true, true, false, true, true, false, true, true, true, false, false] rfl rfl rfl rfl (two_of HT_.out (by kernel_rfl)) (by decide) (by decide) (fun K hK => ?_) (fun K hK => ?_)
          ·
           skip
           refine Kd.R_append_rows_step k26 (w0 := w) w.heap.size (by rfl) (.tmp 20) (.tmp 23) 24 26 (.agg #[(.int .i64 0), (.int .i64 0), (.int .i64 0), (.int .i64 0)]) 32 rfl Try.underlying24 info26 rfl (by decide) (by omega) v173 y172 y175 _ _ _ (fun k_ => k_ ≠ gb146) (fun _ => False) rfl rfl ?aO ?aR (fun _ _ h => h) (fun _ h => h.elim) ?aF ?aB ?aS ?aL ?_
           (case aR => repeat (first | exact (Kd.C_below HR178.out HB.out) | (with_reducible refine xg_' ?_ _) | (with_reducible refine xe_' ?_ _) | (with_reducible refine xf_' ?_)))
           (case aB => exact (by repeat (first | (with_reducible first | exact HB.out | apply pa_' | apply pn_' | apply pd_' | refine pt_' ?_ GE146.out) | exact HB.out)))
           (case aF => exact (fun k_ hk => Kd.freshB (g := gb146) (o := .cells #[.int .i64 a1_0, .int .i64 a1_1, .int .i64 a1_2, .int .i64 a1_3] 26 (0, 0)) (by (with_reducible repeat (first | refine kn_' ?_ _ | refine kd_' ?_ | refine ka_' ?_ _)); exact BK146.out) k_ hk))
           (case aO => exact (by (with_reducible repeat (first | apply ra_' | apply rn_' | apply rd1_')); exact xi_' HO174.out (fun _ hk => hk.2)))
           (case aS => exact (ps_' (by repeat (first | (with_reducible first | exact HB.out | apply pa_' | apply pn_' | apply pd_' | refine pt_' ?_ GE146.out) | exact HB.out))))
           (case aL => have := LMc33.out; omega)
           intro v180 w44 ho hb hg hat
           rw [← Ny179.out] at ho
           have n0_ := sk_' (blk_grown (g := gb146) (o := .cells #[.int .i64 a1_0, .int .i64 a1_1, .int .i64 a1_2, .int .i64 a1_3] 26 (0, 0)) (by (with_reducible repeat (first | refine kn_' ?_ _ | refine kd_' ?_ | refine ka_' ?_ _)); exact BK146.out) hg (Kd.R_away HO174.out (fun _ hk => hk.2)))
           have n1_ := sk_' (hb)
           have n2_ := sk_' (ho)
           clear BK146
           clear HB
           clear HO174
           have BK146 := n0_
           have HB := n1_
           have HO181 := n2_
           clear n0_ n1_ n2_
           clear ho hb hg hat
           refine hK.out _ _ ⟨(kc_' BK146.out 0).trans rfl, (kc_' BK146.out 1).trans rfl, (kc_' BK146.out 2).trans rfl, (kc_' BK146.out 3).trans rfl⟩ (fun hHeld => ?_)
           clear hK K
           refine norm_ (a' := ?_) ?_ ?_
           rotate_left
           ·
            show Act.put _ (some 24) _ = _
            simp only [Act.put, sa_', sz_', sc_', i64_w, i32_w]
            rfl
           refine one_ (i := 6) (N := some 26) #[true, true, true, true, true, true, true, false, true, true, true, false, false] rfl rfl (one_of HT_.out (by kernel_rfl)) (by decide) (fun K hK => ?_)
           refine Kd.R_lit_step k26 _ 26 ?hg (N := 26) ?hd (xs := ([(⟨a1_0, a1_1, a1_2, a1_3⟩ : S26)] : List (S26))) (inner := [.int .i64 a1_0, .int .i64 a1_1, .int .i64 a1_2, .int .i64 a1_3]) (ok := fun _ => True) (okp := fun _ => True) ?hr ?hp (fun _ hk => hk) trivial (Below.refl _ _) (Nat.le_refl _) (by simp) ?_; (case hd => rfl); (case hg => rfl); (case hr => first | (go_simp; done) | (go_simp; rfl)); (case hp => exact (Reps.c4 (show Kd.M k26 _ _ _ (⟨a1_0, a1_1, a1_2, a1_3⟩ : S26) [.int .i64 a1_0, .int .i64 a1_1, .int .i64 a1_2, .int .i64 a1_3] from (k26_mkM _ _ _ (⟨a1_0, a1_1, a1_2, a1_3⟩ : S26) )) (Reps.none _ _)))
           intro v183 w45 ho46 hb hg_ hnew_
           clear hg_ hnew_
           (first | rw [← Ny182.out] at ho46 | (simp only [Int.reduceToNat] at ho46; rw [← Ny182.out] at ho46))
           have n0_ := sk_' (Kd.R_elder' (by (with_reducible repeat (first | apply ra_' | apply rn_' | apply rd1_')); exact HO181.out) (Kd.R_base ho46) hb)
           have n1_ := sk_' (Kd.R_lower (Kd.R_newB (Kd.R_new' ho46 (Kd.R_lt (by (with_reducible repeat (first | apply ra_' | apply rn_' | apply rd1_')); exact HO181.out))) (g := gb146) (o := .cells #[.int .i64 a1_0, .int .i64 a1_1, .int .i64 a1_2, .int .i64 a1_3] 26 (0, 0)) (by (with_reducible repeat (first | refine kn_' ?_ _ | refine kd_' ?_ | refine ka_' ?_ _)); exact BK146.out)) (ps_' (by repeat (first | (with_reducible first | exact HB.out | apply pa_' | apply pn_' | apply pd_' | refine pt_' ?_ GE146.out) | exact HB.out))))
           have n2_ := sk_' (blk_below (g := gb146) (o := .cells #[.int .i64 a1_0, .int .i64 a1_1, .int .i64 a1_2, .int .i64 a1_3] 26 (0, 0)) (by (with_reducible repeat (first | refine kn_' ?_ _ | refine kd_' ?_ | refine ka_' ?_ _)); exact BK146.out) hb)
           have n3_ := sk_' (pp_' (by repeat (first | (with_reducible first | exact HB.out | apply pa_' | apply pn_' | apply pd_' | refine pt_' ?_ GE146.out) | exact HB.out)) hb)
           clear HO181
           clear BK146
           clear HB
           have HO181 := n0_
           have HO184 := n1_
           have BK146 := n2_
           have HB := n3_
           clear n0_ n1_ n2_ n3_
           clear hb ho46
           refine hK.out _ _ ⟨(kc_' BK146.out 0).trans rfl, (kc_' BK146.out 1).trans rfl, (kc_' BK146.out 2).trans rfl, (kc_' BK146.out 3).trans rfl⟩ (fun hHeld => ?_)
           clear hK K
           refine norm_ (a' := ?_) ?_ ?_
           rotate_left
           ·
            show Act.put _ (some 26) _ = _
            simp only [Act.put, sa_', sz_', sc_', i64_w, i32_w]
            rfl
           exact norm_ (by simp only [putAll, Act.put, sa_', sz_', sc_']) (hCont (v173, v180, v183) _ ⟨hHeld, (by (with_reducible repeat (first | apply ra_' | apply rn_' | apply rd1_')); exact xi_' HO181.out (fun _ hk => ⟨hk.2, hk.1⟩)), (by (with_reducible repeat (first | apply ra_' | apply rn_' | apply rd1_')); exact xi_' HO184.out (fun _ hk => ⟨hk.1.2, hk.2⟩)), (by (with_reducible repeat (first | refine kn_' ?_ _ | refine kd_' ?_ | refine ka_' ?_ _)); exact BK146.out), (by repeat (first | (with_reducible first | exact HB.out | apply pa_' | apply pn_' | apply pd_' | refine pt_' ?_ GE146.out) | exact HB.out))⟩)
          skip
          refine Kd.R_lit_step k26 _ 26 ?hg (N := 26) ?hd (xs := ([(⟨a1_0, a1_1, a1_2, a1_3⟩ : S26)] : List (S26))) (inner := [.int .i64 a1_0, .int .i64 a1_1, .int .i64 a1_2, .int .i64 a1_3]) (ok := fun _ => True) (okp := fun _ => True) ?hr ?hp (fun _ hk => hk) trivial (Below.refl _ _) (Nat.le_refl _) (by simp) ?_; (case hd => rfl); (case hg => rfl); (case hr => first | (go_simp; done) | (go_simp; rfl)); (case hp => exact (Reps.c4 (show Kd.M k26 _ _ _ (⟨a1_0, a1_1, a1_2, a1_3⟩ : S26) [.int .i64 a1_0, .int .i64 a1_1, .int .i64 a1_2, .int .i64 a1_3] from (k26_mkM _ _ _ (⟨a1_0, a1_1, a1_2, a1_3⟩ : S26) )) (Reps.none _ _)))
          intro v183 w44 ho45 hb hg_ hnew_
          clear hg_ hnew_
          (first | rw [← Ny182.out] at ho45 | (simp only [Int.reduceToNat] at ho45; rw [← Ny182.out] at ho45))
          have n0_ := sk_' (Kd.R_elder' (by (with_reducible repeat (first | apply ra_' | apply rn_' | apply rd1_')); exact HO174.out) (Kd.R_base ho45) hb)
          have n1_ := sk_' (Kd.R_lower (Kd.R_newB (Kd.R_new' ho45 (Kd.R_lt (by (with_reducible repeat (first | apply ra_' | apply rn_' | apply rd1_')); exact HO174.out))) (g := gb146) (o := .cells #[.int .i64 a1_0, .int .i64 a1_1, .int .i64 a1_2, .int .i64 a1_3] 26 (0, 0)) (by (with_reducible repeat (first | refine kn_' ?_ _ | refine kd_' ?_ | refine ka_' ?_ _)); exact BK146.out)) (ps_' (by repeat (first | (with_reducible first | exact HB.out | apply pa_' | apply pn_' | apply pd_' | refine pt_' ?_ GE146.out) | exact HB.out))))
          have n2_ := sk_' (blk_below (g := gb146) (o := .cells #[.int .i64 a1_0, .int .i64 a1_1, .int .i64 a1_2, .int .i64 a1_3] 26 (0, 0)) (by (with_reducible repeat (first | refine kn_' ?_ _ | refine kd_' ?_ | refine ka_' ?_ _)); exact BK146.out) hb)
          have n3_ := sk_' (pp_' (by repeat (first | (with_reducible first | exact HB.out | apply pa_' | apply pn_' | apply pd_' | refine pt_' ?_ GE146.out) | exact HB.out)) hb)
          clear HO174
          clear BK146
          clear HB
          have HO174 := n0_
          have HO184 := n1_
          have BK146 := n2_
          have HB := n3_
          clear n0_ n1_ n2_ n3_
          clear hb ho45
          refine hK.out _ _ ⟨(kc_' BK146.out 0).trans rfl, (kc_' BK146.out 1).trans rfl, (kc_' BK146.out 2).trans rfl, (kc_' BK146.out 3).trans rfl⟩ (fun hHeld => ?_)
          clear hK K
          refine norm_ (a' := ?_) ?_ ?_
          rotate_left
          ·
           show Act.put _ (some 26) _ = _
           simp only [Act.put, sa_', sz_', sc_', i64_w, i32_w]
           rfl
          refine one_ (i := 4) (N := some 24) #[true, true, true, true, true, true, true, false, true, true, true, false, false] rfl rfl (one_of HT_.out (by kernel_rfl)) (by decide) (fun K hK => ?_)
          refine Kd.R_append_rows_step k26 (w0 := w) w.heap.size (by rfl) (.tmp 20) (.tmp 23) 24 26 (.agg #[(.int .i64 0), (.int .i64 0), (.int .i64 0), (.int .i64 0)]) 32 rfl Try.underlying24 info26 rfl (by decide) (by omega) v173 y172 y175 _ _ _ (fun k_ => some k_ ≠ (v183 : Value).ownBlock ∧ k_ ≠ gb146) (fun _ => False) rfl rfl ?aO ?aR (fun _ _ h => h) (fun _ h => h.elim) ?aF ?aB ?aS ?aL ?_
          (case aR => repeat (first | exact (Kd.C_below HR178.out HB.out) | (with_reducible refine xg_' ?_ _) | (with_reducible refine xe_' ?_ _) | (with_reducible refine xf_' ?_)))
          (case aB => exact (by repeat (first | (with_reducible first | exact HB.out | apply pa_' | apply pn_' | apply pd_' | refine pt_' ?_ GE146.out) | exact HB.out)))
          (case aF => exact (fun k_ hk => ⟨Kd.fresh' (Kd.R_lt (by (with_reducible repeat (first | apply ra_' | apply rn_' | apply rd1_')); exact HO184.out)) k_ hk, Kd.freshB (g := gb146) (o := .cells #[.int .i64 a1_0, .int .i64 a1_1, .int .i64 a1_2, .int .i64 a1_3] 26 (0, 0)) (by (with_reducible repeat (first | refine kn_' ?_ _ | refine kd_' ?_ | refine ka_' ?_ _)); exact BK146.out) k_ hk⟩))
          (case aO => exact (by (with_reducible repeat (first | apply ra_' | apply rn_' | apply rd1_')); exact xi_' HO174.out (fun _ hk => ⟨hk.2, hk.1.2⟩)))
          (case aS => exact (ps_' (by repeat (first | (with_reducible first | exact HB.out | apply pa_' | apply pn_' | apply pd_' | refine pt_' ?_ GE146.out) | exact HB.out))))
          (case aL => have := LMc33.out; omega)
          intro v180 w46 ho hb hg hat
          rw [← Ny179.out] at ho
          have n0_ := sk_' (blk_grown (g := gb146) (o := .cells #[.int .i64 a1_0, .int .i64 a1_1, .int .i64 a1_2, .int .i64 a1_3] 26 (0, 0)) (by (with_reducible repeat (first | refine kn_' ?_ _ | refine kd_' ?_ | refine ka_' ?_ _)); exact BK146.out) hg (Kd.R_away HO174.out (fun _ hk => hk.1.2)))
          have n1_ := sk_' (Kd.R_after (ok := (fun k_ => k_ ≠ gb146)) (by (with_reducible repeat (first | apply ra_' | apply rn_' | apply rd1_')); exact xi_' HO184.out (fun _ hk => ⟨hk.2, hk.1.2⟩)) hg hat)
          have n2_ := sk_' (hb)
          have n3_ := sk_' (ho)
          clear BK146
          clear HO184
          clear HB
          clear HO174
          have BK146 := n0_
          have HO184 := n1_
          have HB := n2_
          have HO181 := n3_
          clear n0_ n1_ n2_ n3_
          clear ho hb hg hat
          refine hK.out _ _ ⟨(kc_' BK146.out 0).trans rfl, (kc_' BK146.out 1).trans rfl, (kc_' BK146.out 2).trans rfl, (kc_' BK146.out 3).trans rfl⟩ (fun hHeld => ?_)
          clear hK K
          refine norm_ (a' := ?_) ?_ ?_
          rotate_left
          ·
           show Act.put _ (some 24) _ = _
           simp only [Act.put, sa_', sz_', sc_', i64_w, i32_w]
           rfl
          exact norm_ (by simp only [putAll, Act.put, sa_', sz_', sc_']) (hCont (v173, v180, v183) _ ⟨hHeld, (by (with_reducible repeat (first | apply ra_' | apply rn_' | apply rd1_')); exact HO181.out), (by (with_reducible repeat (first | apply ra_' | apply rn_' | apply rd1_')); exact xi_' HO184.out (fun _ hk => ⟨hk.2, hk.1⟩)), (by (with_reducible repeat (first | refine kn_' ?_ _ | refine kd_' ?_ | refine ka_' ?_ _)); exact BK146.out), (by repeat (first | (with_reducible first | exact HB.out | apply pa_' | apply pn_' | apply pd_' | refine pt_' ?_ GE146.out) | exact HB.out))⟩)
         skip
         refine Kd.R_lit_step k26 _ 26 ?hg (N := 26) ?hd (xs := ([(⟨a1_0, a1_1, a1_2, a1_3⟩ : S26)] : List (S26))) (inner := [.int .i64 a1_0, .int .i64 a1_1, .int .i64 a1_2, .int .i64 a1_3]) (ok := fun _ => True) (okp := fun _ => True) ?hr ?hp (fun _ hk => hk) trivial (Below.refl _ _) (Nat.le_refl _) (by simp) ?_; (case hd => rfl); (case hg => rfl); (case hr => first | (go_simp; done) | (go_simp; rfl)); (case hp => exact (Reps.c4 (show Kd.M k26 _ _ _ (⟨a1_0, a1_1, a1_2, a1_3⟩ : S26) [.int .i64 a1_0, .int .i64 a1_1, .int .i64 a1_2, .int .i64 a1_3] from (k26_mkM _ _ _ (⟨a1_0, a1_1, a1_2, a1_3⟩ : S26) )) (Reps.none _ _)))
         intro v183 w42 ho43 hb hg_ hnew_
         clear hg_ hnew_
         (first | rw [← Ny182.out] at ho43 | (simp only [Int.reduceToNat] at ho43; rw [← Ny182.out] at ho43))
         have n0_ := sk_' (Kd.R_lower (Kd.R_newB ho43 (g := gb146) (o := .cells #[.int .i64 a1_0, .int .i64 a1_1, .int .i64 a1_2, .int .i64 a1_3] 26 (0, 0)) (by (with_reducible repeat (first | refine kn_' ?_ _ | refine kd_' ?_ | refine ka_' ?_ _)); exact BK146.out)) (ps_' (by repeat (first | (with_reducible first | exact HB.out | apply pa_' | apply pn_' | apply pd_' | refine pt_' ?_ GE146.out) | exact HB.out))))
         have n1_ := sk_' (blk_below (g := gb146) (o := .cells #[.int .i64 a1_0, .int .i64 a1_1, .int .i64 a1_2, .int .i64 a1_3] 26 (0, 0)) (by (with_reducible repeat (first | refine kn_' ?_ _ | refine kd_' ?_ | refine ka_' ?_ _)); exact BK146.out) hb)
         have n2_ := sk_' (pp_' (by repeat (first | (with_reducible first | exact HB.out | apply pa_' | apply pn_' | apply pd_' | refine pt_' ?_ GE146.out) | exact HB.out)) hb)
         clear BK146
         clear HB
         have HO184 := n0_
         have BK146 := n1_
         have HB := n2_
         clear n0_ n1_ n2_
         clear hb ho43
         refine hK.out _ _ ⟨(kc_' BK146.out 0).trans rfl, (kc_' BK146.out 1).trans rfl, (kc_' BK146.out 2).trans rfl, (kc_' BK146.out 3).trans rfl⟩ (fun hHeld => ?_)
         clear hK K
         refine norm_ (a' := ?_) ?_ ?_
         rotate_left
         ·
          show Act.put _ (some 26) _ = _
          simp only [Act.put, sa_', sz_', sc_', i64_w, i32_w]
          rfl
         refine one_ (i := 0) (N := some 20) #[true, true, true, true, false, true, true, false, true, true, true, false, false] rfl rfl (one_of HT_.out (by kernel_rfl)) (by decide) (fun K hK => ?_)
         refine Kd.R_lit_step k26 _ 26 ?hg (N := 20) ?hd (xs := ([] : List (S26))) (inner := []) (ok := fun _ => True) (okp := fun _ => True) ?hr ?hp (fun _ hk => hk) trivial (Below.refl _ _) (Nat.le_refl _) (by simp) ?_; (case hd => rfl); (case hg => rfl); (case hr => first | (go_simp; done) | (go_simp; rfl)); (case hp => exact (Reps.none _ _))
         intro v173 w44 ho45 hb hg_ hnew_
         clear hg_ hnew_
         (first | rw [← Ny172.out] at ho45 | (simp only [Int.reduceToNat] at ho45; rw [← Ny172.out] at ho45))
         have n0_ := sk_' (Kd.R_elder' (by (with_reducible repeat (first | apply ra_' | apply rn_' | apply rd1_')); exact HO184.out) (Kd.R_base ho45) hb)
         have n1_ := sk_' (Kd.R_lower (Kd.R_newB (Kd.R_new' ho45 (Kd.R_lt (by (with_reducible repeat (first | apply ra_' | apply rn_' | apply rd1_')); exact HO184.out))) (g := gb146) (o := .cells #[.int .i64 a1_0, .int .i64 a1_1, .int .i64 a1_2, .int .i64 a1_3] 26 (0, 0)) (by (with_reducible repeat (first | refine kn_' ?_ _ | refine kd_' ?_ | refine ka_' ?_ _)); exact BK146.out)) (ps_' (by repeat (first | (with_reducible first | exact HB.out | apply pa_' | apply pn_' | apply pd_' | refine pt_' ?_ GE146.out) | exact HB.out))))
         have n2_ := sk_' (blk_below (g := gb146) (o := .cells #[.int .i64 a1_0, .int .i64 a1_1, .int .i64 a1_2, .int .i64 a1_3] 26 (0, 0)) (by (with_reducible repeat (first | refine kn_' ?_ _ | refine kd_' ?_ | refine ka_' ?_ _)); exact BK146.out) hb)
         have n3_ := sk_' (pp_' (by repeat (first | (with_reducible first | exact HB.out | apply pa_' | apply pn_' | apply pd_' | refine pt_' ?_ GE146.out) | exact HB.out)) hb)
         clear HO184
         clear BK146
         clear HB
         have HO184 := n0_
         have HO174 := n1_
         have BK146 := n2_
         have HB := n3_
         clear n0_ n1_ n2_ n3_
         clear hb ho45
         refine hK.out _ _ ⟨(kc_' BK146.out 0).trans rfl, (kc_' BK146.out 1).trans rfl, (kc_' BK146.out 2).trans rfl, (kc_' BK146.out 3).trans rfl⟩ (fun hHeld => ?_)
         clear hK K
         refine norm_ (a' := ?_) ?_ ?_
         rotate_left
         ·
          show Act.put _ (some 20) _ = _
          simp only [Act.put, sa_', sz_', sc_', i64_w, i32_w]
          rfl
         refine one_ (i := 4) (N := some 24) #[true, true, true, true, true, true, true, false, true, true, true, false, false] rfl rfl (one_of HT_.out (by kernel_rfl)) (by decide) (fun K hK => ?_)
         refine Kd.R_append_rows_step k26 (w0 := w) w.heap.size (by rfl) (.tmp 20) (.tmp 23) 24 26 (.agg #[(.int .i64 0), (.int .i64 0), (.int .i64 0), (.int .i64 0)]) 32 rfl Try.underlying24 info26 rfl (by decide) (by omega) v173 y172 y175 _ _ _ (fun k_ => some k_ ≠ (v183 : Value).ownBlock ∧ k_ ≠ gb146) (fun _ => False) rfl rfl ?aO ?aR (fun _ _ h => h) (fun _ h => h.elim) ?aF ?aB ?aS ?aL ?_
         (case aR => repeat (first | exact (Kd.C_below HR178.out HB.out) | (with_reducible refine xg_' ?_ _) | (with_reducible refine xe_' ?_ _) | (with_reducible refine xf_' ?_)))
         (case aB => exact (by repeat (first | (with_reducible first | exact HB.out | apply pa_' | apply pn_' | apply pd_' | refine pt_' ?_ GE146.out) | exact HB.out)))
         (case aF => exact (fun k_ hk => ⟨Kd.fresh' (Kd.R_lt (by (with_reducible repeat (first | apply ra_' | apply rn_' | apply rd1_')); exact HO184.out)) k_ hk, Kd.freshB (g := gb146) (o := .cells #[.int .i64 a1_0, .int .i64 a1_1, .int .i64 a1_2, .int .i64 a1_3] 26 (0, 0)) (by (with_reducible repeat (first | refine kn_' ?_ _ | refine kd_' ?_ | refine ka_' ?_ _)); exact BK146.out) k_ hk⟩))
         (case aO => exact (by (with_reducible repeat (first | apply ra_' | apply rn_' | apply rd1_')); exact xi_' HO174.out (fun _ hk => ⟨hk.1.2, hk.2⟩)))
         (case aS => exact (ps_' (by repeat (first | (with_reducible first | exact HB.out | apply pa_' | apply pn_' | apply pd_' | refine pt_' ?_ GE146.out) | exact HB.out))))
         (case aL => have := LMc33.out; omega)
         intro v180 w46 ho hb hg hat
         rw [← Ny179.out] at ho
         have n0_ := sk_' (blk_grown (g := gb146) (o := .cells #[.int .i64 a1_0, .int .i64 a1_1, .int .i64 a1_2, .int .i64 a1_3] 26 (0, 0)) (by (with_reducible repeat (first | refine kn_' ?_ _ | refine kd_' ?_ | refine ka_' ?_ _)); exact BK146.out) hg (Kd.R_away HO174.out (fun _ hk => hk.2)))
         have n1_ := sk_' (Kd.R_after (ok := (fun k_ => k_ ≠ gb146)) (by (with_reducible repeat (first | apply ra_' | apply rn_' | apply rd1_')); exact xi_' HO184.out (fun _ hk => ⟨hk.1.2, hk.2⟩)) hg hat)
         have n2_ := sk_' (hb)
         have n3_ := sk_' (ho)
         clear BK146
         clear HO184
         clear HB
         clear HO174
         have BK146 := n0_
         have HO184 := n1_
         have HB := n2_
         have HO181 := n3_
         clear n0_ n1_ n2_ n3_
         clear ho hb hg hat
         refine hK.out _ _ ⟨(kc_' BK146.out 0).trans rfl, (kc_' BK146.out 1).trans rfl, (kc_' BK146.out 2).trans rfl, (kc_' BK146.out 3).trans rfl⟩ (fun hHeld => ?_)
         clear hK K
         refine norm_ (a' := ?_) ?_ ?_
         rotate_left
         ·
          show Act.put _ (some 24) _ = _
          simp only [Act.put, sa_', sz_', sc_', i64_w, i32_w]
          rfl
         exact norm_ (by simp only [putAll, Act.put, sa_', sz_', sc_']) (hCont (v173, v180, v183) _ ⟨hHeld, (by (with_reducible repeat (first | apply ra_' | apply rn_' | apply rd1_')); exact HO181.out), (by (with_reducible repeat (first | apply ra_' | apply rn_' | apply rd1_')); exact xi_' HO184.out (fun _ hk => ⟨hk.2, hk.1⟩)), (by (with_reducible repeat (first | refine kn_' ?_ _ | refine kd_' ?_ | refine ka_' ?_ _)); exact BK146.out), (by repeat (first | (with_reducible first | exact HB.out | apply pa_' | apply pn_' | apply pd_' | refine pt_' ?_ GE146.out) | exact HB.out))⟩)
        rintro ⟨v173, v180, v183⟩ w47 ⟨hS_, h0_, h1_, h2_, h3_⟩
        have n0_ : Aside0 (Kd.R k26 26 w47 w.heap.size (fun k_ => some k_ ≠ (v183 : Value).ownBlock ∧ k_ ≠ gb146) v180 y179) := ⟨h0_⟩
        have n1_ : Aside0 (Kd.R k26 26 w47 w.heap.size (fun k_ => some k_ ≠ (v180 : Value).ownBlock ∧ k_ ≠ gb146) v183 y182) := ⟨h1_⟩
        have n2_ : Aside0 (w47.heap[gb146]? = some (.cells #[.int .i64 a1_0, .int .i64 a1_1, .int .i64 a1_2, .int .i64 a1_3] 26 (0, 0))) := ⟨h2_⟩
        have n3_ : Aside0 (Below w.heap.size w w47) := ⟨h3_⟩
        clear BK146
        clear HB
        clear h0_ h1_ h2_ h3_
        have HO181 := n0_
        have HO184 := n1_
        have BK146 := n2_
        have HB := n3_
        clear n0_ n1_ n2_ n3_
        have hHeld : w47.cell? ⟨gb146, 0, none⟩ = some (.int .i64 a1_0) ∧ w47.cell? ⟨gb146, 1, none⟩ = some (.int .i64 a1_1) ∧ w47.cell? ⟨gb146, 2, none⟩ = some (.int .i64 a1_2) ∧ w47.cell? ⟨gb146, 3, none⟩ = some (.int .i64 a1_3) := hS_
        obtain ⟨Ao49, co49, eo49⟩ := Kd.R_slice HO184.out
        (first | subst eo49 | (injection eo49 with f1_ f2_ f3_; have f4_ := f1_.symm; have f5_ := f3_.symm; clear f1_ f2_ f3_; subst f4_; subst f5_))
        refine norm_ (a' := ?_) ?_ ?_
        rotate_left
        ·
         simp only [putAll, Act.put, sa_', sz_', sc_']
         rfl
        refine one_ (i := 7) (N := some 27) #[true, true, true, true, true, true, true, true, true, true, true, false, false] rfl rfl (one_of HT_.out (by kernel_rfl)) (by decide) (fun K hK => ?_)
        refine Kd.R_append_rows_step k26 (w0 := w) w.heap.size (by rfl) (.tmp 24) (.tmp 26) 24 26 (.agg #[(.int .i64 0), (.int .i64 0), (.int .i64 0), (.int .i64 0)]) 32 rfl Try.underlying24 info26 rfl (by decide) (by omega) v180 y179 y182 _ _ _ (fun k_ => some k_ ≠ (.slice Ao49 y182.length co49 : Value).ownBlock ∧ k_ ≠ gb146) (fun _ => False) rfl rfl ?aO ?aR (fun _ _ h => h) (fun _ h => h.elim) ?aF ?aB ?aS ?aL ?_
        (case aR => repeat (first | exact (xr_' HO184.out).2.2 | (with_reducible refine xg_' ?_ _) | (with_reducible refine xe_' ?_ _) | (with_reducible refine xf_' ?_)))
        (case aB => exact (by repeat (first | (with_reducible first | exact HB.out | apply pa_' | apply pn_' | apply pd_' | refine pt_' ?_ GE146.out) | exact HB.out)))
        (case aF => exact (fun k_ hk => ⟨Kd.fresh' (Kd.R_lt (by (with_reducible repeat (first | apply ra_' | apply rn_' | apply rd1_')); exact HO184.out)) k_ hk, Kd.freshB (g := gb146) (o := .cells #[.int .i64 a1_0, .int .i64 a1_1, .int .i64 a1_2, .int .i64 a1_3] 26 (0, 0)) (by (with_reducible repeat (first | refine kn_' ?_ _ | refine kd_' ?_ | refine ka_' ?_ _)); exact BK146.out) k_ hk⟩))
        (case aO => exact (by (with_reducible repeat (first | apply ra_' | apply rn_' | apply rd1_')); exact HO181.out))
        (case aS => exact (ps_' (by repeat (first | (with_reducible first | exact HB.out | apply pa_' | apply pn_' | apply pd_' | refine pt_' ?_ GE146.out) | exact HB.out))))
        (case aL => have := LMc34.out; omega)
        intro v186 w48 ho hb hg hat
        rw [← Ny185.out] at ho
        have n0_ := sk_' (blk_grown (g := gb146) (o := .cells #[.int .i64 a1_0, .int .i64 a1_1, .int .i64 a1_2, .int .i64 a1_3] 26 (0, 0)) (by (with_reducible repeat (first | refine kn_' ?_ _ | refine kd_' ?_ | refine ka_' ?_ _)); exact BK146.out) hg (Kd.R_away HO181.out (fun _ hk => hk.2)))
        have n1_ := sk_' (Kd.R_after (ok := (fun k_ => k_ ≠ gb146)) (by (with_reducible repeat (first | apply ra_' | apply rn_' | apply rd1_')); exact xi_' HO184.out (fun _ hk => ⟨hk.2, hk.1⟩)) hg hat)
        have n2_ := sk_' (hb)
        have n3_ := sk_' (ho)
        clear BK146
        clear HO184
        clear HB
        clear HO181
        have BK146 := n0_
        have HO184 := n1_
        have HB := n2_
        have HO187 := n3_
        clear n0_ n1_ n2_ n3_
        clear ho hb hg hat
        refine hK.out _ _ ⟨(kc_' BK146.out 0).trans rfl, (kc_' BK146.out 1).trans rfl, (kc_' BK146.out 2).trans rfl, (kc_' BK146.out 3).trans rfl⟩ (fun hHeld => ?_)
        clear hK K
        refine norm_ (a' := ?_) ?_ ?_
        rotate_left
        ·
         show Act.put _ (some 27) _ = _
         simp only [Act.put, sa_', sz_', sc_', i64_w, i32_w]
         rfl
        refine one_ (i := 11) (N := some 31) #[true, true, true, true, true, true, true, true, true, true, true, true, false] rfl rfl (one_of HT_.out (by kernel_rfl)) (by decide) (fun K hK => ?_)
        refine Kd.R_append_rows_step k26 (w0 := w) w.heap.size (by rfl) (.tmp 27) (.tmp 30) 24 26 (.agg #[(.int .i64 0), (.int .i64 0), (.int .i64 0), (.int .i64 0)]) 32 rfl Try.underlying24 info26 rfl (by decide) (by omega) v186 y185 y188 _ _ _ (fun k_ => some k_ ≠ (.slice Ao49 y182.length co49 : Value).ownBlock ∧ k_ ≠ gb146) (fun _ => False) rfl rfl ?aO ?aR (fun _ _ h => h) (fun _ h => h.elim) ?aF ?aB ?aS ?aL ?_
        (case aR => repeat (first | exact (Kd.C_below HR191.out HB.out) | (with_reducible refine xg_' ?_ _) | (with_reducible refine xe_' ?_ _) | (with_reducible refine xf_' ?_)))
        (case aB => exact (by repeat (first | (with_reducible first | exact HB.out | apply pa_' | apply pn_' | apply pd_' | refine pt_' ?_ GE146.out) | exact HB.out)))
        (case aF => exact (fun k_ hk => ⟨Kd.fresh' (Kd.R_lt (by (with_reducible repeat (first | apply ra_' | apply rn_' | apply rd1_')); exact HO184.out)) k_ hk, Kd.freshB (g := gb146) (o := .cells #[.int .i64 a1_0, .int .i64 a1_1, .int .i64 a1_2, .int .i64 a1_3] 26 (0, 0)) (by (with_reducible repeat (first | refine kn_' ?_ _ | refine kd_' ?_ | refine ka_' ?_ _)); exact BK146.out) k_ hk⟩))
        (case aO => exact (by (with_reducible repeat (first | apply ra_' | apply rn_' | apply rd1_')); exact HO187.out))
        (case aS => exact (ps_' (by repeat (first | (with_reducible first | exact HB.out | apply pa_' | apply pn_' | apply pd_' | refine pt_' ?_ GE146.out) | exact HB.out))))
        (case aL => have := LMc37.out; omega)
        intro v193 w50 ho hb hg hat
        rw [← Ny192.out] at ho
        have n0_ := sk_' (blk_grown (g := gb146) (o := .cells #[.int .i64 a1_0, .int .i64 a1_1, .int .i64 a1_2, .int .i64 a1_3] 26 (0, 0)) (by (with_reducible repeat (first | refine kn_' ?_ _ | refine kd_' ?_ | refine ka_' ?_ _)); exact BK146.out) hg (Kd.R_away HO187.out (fun _ hk => hk.2)))
        have n1_ := sk_' (Kd.R_after (ok := (fun k_ => k_ ≠ gb146)) (by (with_reducible repeat (first | apply ra_' | apply rn_' | apply rd1_')); exact HO184.out) hg hat)
        have n2_ := sk_' (hb)
        have n3_ := sk_' (ho)
        clear BK146
        clear HO184
        clear HB
        clear HO187
        have BK146 := n0_
        have HO184 := n1_
        have HB := n2_
        have HO194 := n3_
        clear n0_ n1_ n2_ n3_
        clear ho hb hg hat
        refine hK.out _ _ ⟨(kc_' BK146.out 0).trans rfl, (kc_' BK146.out 1).trans rfl, (kc_' BK146.out 2).trans rfl, (kc_' BK146.out 3).trans rfl⟩ (fun hHeld => ?_)
        clear hK K
        refine norm_ (a' := ?_) ?_ ?_
        rotate_left
        ·
         show Act.put _ (some 31) _ = _
         simp only [Act.put, sa_', sz_', sc_', i64_w, i32_w]
         rfl
        refine pure_ (i := 12) (N := some 4) (v := ?_) (a' := ?_) #[true, true, true, true, true, true, true, true, true, true, true, true, true] rfl rfl (any_of HT_.out (by kernel_rfl)) (fun _ _ _ h => h) (Or.inl ⟨by rfl, ?_⟩) ?_ ?_
        rotate_left
        ·
         intro w'
         go_simp
         with_reducible rfl
        rotate_left
        ·
         simp only [Act.put, sa_', sz_', sc_', i64_w, i32_w]
         rfl
        refine done_ (done_of HT_.out (by kernel_rfl)) ?_
        try go_wp2
        go_ret
        exact ⟨_, by first | rfl | (simp [errW_none, errW_some] <;> rfl) | (simp [*, errW_none, errW_some] <;> rfl), by (with_reducible repeat (first | apply ra_' | apply rn_' | apply rd1_')); exact xi_' HO194.out (fun _ hk => trivial), by repeat (first | (with_reducible first | exact HB.out | apply pa_' | apply pn_' | apply pd_' | refine pt_' ?_ GE146.out) | exact HB.out)⟩
       rw [if_neg c37] at H
       exact absurd H (by simp)
      rw [if_neg c34] at H
      exact absurd H (by simp)
     rw [if_neg c33] at H
     exact absurd H (by simp)
    rw [if_neg c32] at H
    exact absurd H (by simp)
   rw [if_neg c31] at H
   exact absurd H (by simp)
end Go.Proofs.Ytbhlmeghbfmgiaa.F

namespace Go.Proofs.Ytbhlmeghbfmgiaa.F
open Go.RowKit Go.Proofs.YtbhlmeghbfmgiaaW.PrintWords Go.Proofs.YtbhlmeghbfmgiaaW.PrintLast Go.Proofs.YtbhlmeghbfmgiaaW.PrintMore
attribute [local go_sem] max2_int min2_int max_two min_two max_three min_three max_four min_four
set_option linter.unusedVariables false
set_option linter.unusedSimpArgs false
def spec_PutEvent.f (k : Nat) (l0 : List (S26)) (a1_0 : Int) (a1_1 : Int) (a1_2 : Int) (a1_3 : Int) : Option ((List (S26)) × Bool) := (spec_l8Put.f k l0 a1_0 a1_1 a1_2 a1_3).bind fun t196 => ((spec_IsScore.f k t196).bind fun t199 => (if t199 = true then (some (t196, true)) else ((some (([] : List (S26)) : List (S26))).bind fun y200 => (if y200.length + l0.length < 4398046511104 then (some ((y200 ++ l0), false)) else (none)))))
set_option maxHeartbeats 8000000 in
set_option maxRecDepth 100000 in
theorem spec_PutEvent.calls (k : Nat) (A0 : Option Addr) (c0 : Nat) (l0 : List (S26)) (a1_0 : Int) (a1_1 : Int) (a1_2 : Int) (a1_3 : Int) (r1 : List (S26)) (r2 : Bool) (w : World) (hr0 : Kd.C k26 w A0 l0.length l0) (hc0 : l0.length ≤ c0) (h : spec_PutEvent.f k l0 a1_0 a1_1 a1_2 a1_3 = some (r1, r2)) :
  Calls Try.prog 158 #[.slice A0 l0.length c0, .agg #[.int .i64 a1_0, .int .i64 a1_1, .int .i64 a1_2, .int .i64 a1_3]] w fun e w' => ∃ v0_ : Value, e = .returned (.tuple #[v0_, .bool r2]) ∧ Kd.R k26 26 w' w.heap.size (fun _ => True) v0_ r1 ∧ Below w.heap.size w w' := by
 have hu26 := Try.underlying26
 have HR0 := sk_' hr0
 have HC0 := sk_' hc0
 clear hr0 hc0
 have HB := sk_' (Below.refl w.heap.size w)
 have H : ((spec_l8Put.f k l0 a1_0 a1_1 a1_2 a1_3).bind fun t196 => ((spec_IsScore.f k t196).bind fun t199 => (if t199 = true then (some (t196, true)) else ((some (([] : List (S26)) : List (S26))).bind fun y200 => (if y200.length + l0.length < 4398046511104 then (some ((y200 ++ l0), false)) else (none)))))) = some (r1, r2) := h
 clear h
 replace H := bs_' H
 obtain ⟨t196, A30, H⟩ := H
 try dsimp only at H
 have A3 := sk_' A30
 clear A30
 replace H := bs_' H
 obtain ⟨t199, A40, H⟩ := H
 try dsimp only at H
 have A4 := sk_' A40
 clear A40
 by_cases c5 : t199 = true
 ·
  subst c5
  rw [if_pos rfl] at H
  simp only [Option.some.injEq, Prod.mk.injEq] at H
  obtain ⟨rfl, rfl⟩ := H
  go_enter Try.func158, Try.ntmps158
  go_wp2_with (first | ((with_reducible refine gate_dst (N := 3) rfl ?_); refine box_event ?hg (N := 3) ?hd (cs := #[.int .i64 a1_0, .int .i64 a1_1, .int .i64 a1_2, .int .i64 a1_3]) (t := 26) ?hr ?_; (case hd => rfl); (case hg => rfl); (case hr => first | (go_simp; done) | (go_simp; rfl)); intro gb195 hg w6 hbox hb; have n0_ := sk_' (pp_' (by repeat (first | (with_reducible first | exact HB.out | apply pa_' | apply pn_' | apply pd_') | exact HB.out)) hb); have n1_ := sk_' (hbox); have n2_ := sk_' ((by rw [hg]; exact (ps_' (by repeat (first | (with_reducible first | exact HB.out | apply pa_' | apply pn_' | apply pd_') | exact HB.out))) : w.heap.size ≤ gb195)); have n3_ := sk_' ((by rw [hg]; exact (ps_' (by repeat (first | (with_reducible first | exact HB.out | apply pa_' | apply pn_' | apply pd_') | exact HB.out))) : w.heap.size ≤ gb195)); clear HB; have HB := n0_; have BK195 := n1_; have GW195 := n2_; have GE195 := n3_; clear n0_ n1_ n2_ n3_; clear hb hbox hg; have hcz7_0 : w6.cell? ⟨gb195, 0, none⟩ = some (.int .i64 a1_0) := (kc_' BK195.out 0).trans rfl; have hcz7_1 : w6.cell? ⟨gb195, 1, none⟩ = some (.int .i64 a1_1) := (kc_' BK195.out 1).trans rfl; have hcz7_2 : w6.cell? ⟨gb195, 2, none⟩ = some (.int .i64 a1_2) := (kc_' BK195.out 2).trans rfl; have hcz7_3 : w6.cell? ⟨gb195, 3, none⟩ = some (.int .i64 a1_3) := (kc_' BK195.out 3).trans rfl; have hfz7_0 := kf_' BK195.out 0; have hfz7_1 := kf_' BK195.out 1; have hfz7_2 := kf_' BK195.out 2; have hfz7_3 := kf_' BK195.out 3) | ((with_reducible refine xj_' (f := 175) rfl ?_); refine goesL_ (some 9) rfl rfl Try.func175 (by kernel_rfl) rfl #[.slice A0 l0.length c0, .agg #[.int .i64 a1_0, .int .i64 a1_1, .int .i64 a1_2, .int .i64 a1_3]] rfl (by (try simp only [xm_', xc_', xn_']); first | done | rfl | (simp only [xd_', xt_']; rfl)) ?_; (with_reducible refine (spec_l8Put.calls k _ _ l0 a1_0 a1_1 a1_2 a1_3 t196 _ ?side1 ?side2 A3.out).mono ?_); (case side1 => repeat (first | exact (Kd.C_below HR0.out HB.out) | (with_reducible refine xg_' ?_ _) | (with_reducible refine xe_' ?_ _) | (with_reducible refine xf_' ?_))); (case side2 => exact HC0.out); rintro e w8 ⟨v197, rfl, ho0, hb⟩; refine ⟨_, rfl, ?_⟩; have n0_ := sk_' (Kd.R_lower (Kd.R_newB ho0 (g := gb195) (o := .cells #[.int .i64 a1_0, .int .i64 a1_1, .int .i64 a1_2, .int .i64 a1_3] 26 (0, 0)) (by (with_reducible repeat (first | refine kn_' ?_ _ | refine kd_' ?_ | refine ka_' ?_ _)); exact BK195.out)) (ps_' (by repeat (first | (with_reducible first | exact HB.out | apply pa_' | apply pn_' | apply pd_' | refine pt_' ?_ GE195.out) | exact HB.out)))); have n1_ := sk_' (blk_below (g := gb195) (o := .cells #[.int .i64 a1_0, .int .i64 a1_1, .int .i64 a1_2, .int .i64 a1_3] 26 (0, 0)) (by (with_reducible repeat (first | refine kn_' ?_ _ | refine kd_' ?_ | refine ka_' ?_ _)); exact BK195.out) hb); have n2_ := sk_' (pp_' (by repeat (first | (with_reducible first | exact HB.out | apply pa_' | apply pn_' | apply pd_' | refine pt_' ?_ GE195.out) | exact HB.out)) hb); clear BK195; clear HB; have HO198 := n0_; have BK195 := n1_; have HB := n2_; clear n0_ n1_ n2_; (try clear hb); (try clear hb2); (try clear hk); (try clear hi); (try clear ho0); obtain ⟨Ao9, co9, eo9⟩ := Kd.R_slice HO198.out; subst eo9) | ((with_reducible refine xj_' (f := 97) rfl ?_); refine goesL_ (some 11) rfl rfl Try.func97 (by kernel_rfl) rfl #[.slice Ao9 t196.length co9] rfl (by (try simp only [xm_', xc_', xn_']); first | done | rfl | (simp only [xd_', xt_']; rfl)) ?_; (with_reducible refine (spec_IsScore.calls k _ _ t196 true _ ?side1 ?side2 A4.out).mono ?_); (case side1 => repeat (first | exact (xr_' HO198.out).2.2 | (with_reducible refine xg_' ?_ _) | (with_reducible refine xe_' ?_ _) | (with_reducible refine xf_' ?_))); (case side2 => exact (xr_' HO198.out).2.1); rintro e w10 ⟨rfl, hb⟩; refine ⟨_, rfl, ?_⟩; have n0_ := sk_' (xb_' (by (with_reducible repeat (first | apply ra_' | apply rn_' | apply rd1_')); exact HO198.out) hb); have n1_ := sk_' (blk_below (g := gb195) (o := .cells #[.int .i64 a1_0, .int .i64 a1_1, .int .i64 a1_2, .int .i64 a1_3] 26 (0, 0)) (by (with_reducible repeat (first | refine kn_' ?_ _ | refine kd_' ?_ | refine ka_' ?_ _)); exact BK195.out) hb); have n2_ := sk_' (pp_' (by repeat (first | (with_reducible first | exact HB.out | apply pa_' | apply pn_' | apply pd_' | refine pt_' ?_ GE195.out) | exact HB.out)) hb); clear HO198; clear BK195; clear HB; have HO198 := n0_; have BK195 := n1_; have HB := n2_; clear n0_ n1_ n2_; (try clear hb); (try clear hb2); (try clear hk); (try clear hi)))
  go_ret2
  exact ⟨_, by first | rfl | (simp [errW_none, errW_some] <;> rfl) | (simp [*, errW_none, errW_some] <;> rfl), by (with_reducible repeat (first | apply ra_' | apply rn_' | apply rd1_')); exact xi_' HO198.out (fun _ hk => trivial), by repeat (first | (with_reducible first | exact HB.out | apply pa_' | apply pn_' | apply pd_' | refine pt_' ?_ GE195.out) | exact HB.out)⟩
 replace c5 := Bool.eq_false_iff.mpr c5
 subst c5
 rw [if_neg (show ¬ (false = true) by decide)] at H
 obtain ⟨y200, hy200⟩ : ∃ y_ : List (S26), y_ = (([] : List (S26))) := ⟨_, rfl⟩
 replace H : (if y200.length + l0.length < 4398046511104 then (some ((y200 ++ l0), false)) else (none)) = some (r1, r2) := by first | (rw [hy200]; with_reducible exact H) | (have H2_ := (Option.bind_some _ _).symm.trans H; rw [hy200]; with_reducible exact H2_) | (have H2_ := (Option.bind_some _ _).symm.trans H; with_reducible exact H2_) | with_reducible exact H | (rw [hy200]; exact H) | exact H
 have Ny200 := sk_' hy200
 clear hy200
 by_cases c11 : y200.length + l0.length < 4398046511104
 ·
  rw [if_pos c11] at H
  have LMc11 := sk_' c11
  clear c11
  obtain ⟨y203, hy203⟩ : ∃ y_ : List (S26), y_ = (y200 ++ l0) := ⟨_, rfl⟩
  replace H : (some (y203, false)) = some (r1, r2) := by first | (rw [hy203]; with_reducible exact H) | (have H2_ := (Option.bind_some _ _).symm.trans H; rw [hy203]; with_reducible exact H2_) | (have H2_ := (Option.bind_some _ _).symm.trans H; with_reducible exact H2_) | with_reducible exact H | (rw [hy203]; exact H) | exact H
  have Ny203 := sk_' hy203
  clear hy203
  simp only [Option.some.injEq, Prod.mk.injEq] at H
  obtain ⟨rfl, rfl⟩ := H
  go_enter Try.func158, Try.ntmps158
  go_wp2_with (first | ((with_reducible refine gate_dst (N := 3) rfl ?_); refine box_event ?hg (N := 3) ?hd (cs := #[.int .i64 a1_0, .int .i64 a1_1, .int .i64 a1_2, .int .i64 a1_3]) (t := 26) ?hr ?_; (case hd => rfl); (case hg => rfl); (case hr => first | (go_simp; done) | (go_simp; rfl)); intro gb195 hg w12 hbox hb; have n0_ := sk_' (pp_' (by repeat (first | (with_reducible first | exact HB.out | apply pa_' | apply pn_' | apply pd_') | exact HB.out)) hb); have n1_ := sk_' (hbox); have n2_ := sk_' ((by rw [hg]; exact (ps_' (by repeat (first | (with_reducible first | exact HB.out | apply pa_' | apply pn_' | apply pd_') | exact HB.out))) : w.heap.size ≤ gb195)); have n3_ := sk_' ((by rw [hg]; exact (ps_' (by repeat (first | (with_reducible first | exact HB.out | apply pa_' | apply pn_' | apply pd_') | exact HB.out))) : w.heap.size ≤ gb195)); clear HB; have HB := n0_; have BK195 := n1_; have GW195 := n2_; have GE195 := n3_; clear n0_ n1_ n2_ n3_; clear hb hbox hg; have hcz13_0 : w12.cell? ⟨gb195, 0, none⟩ = some (.int .i64 a1_0) := (kc_' BK195.out 0).trans rfl; have hcz13_1 : w12.cell? ⟨gb195, 1, none⟩ = some (.int .i64 a1_1) := (kc_' BK195.out 1).trans rfl; have hcz13_2 : w12.cell? ⟨gb195, 2, none⟩ = some (.int .i64 a1_2) := (kc_' BK195.out 2).trans rfl; have hcz13_3 : w12.cell? ⟨gb195, 3, none⟩ = some (.int .i64 a1_3) := (kc_' BK195.out 3).trans rfl; have hfz13_0 := kf_' BK195.out 0; have hfz13_1 := kf_' BK195.out 1; have hfz13_2 := kf_' BK195.out 2; have hfz13_3 := kf_' BK195.out 3) | ((with_reducible refine xj_' (f := 175) rfl ?_); refine goesL_ (some 9) rfl rfl Try.func175 (by kernel_rfl) rfl #[.slice A0 l0.length c0, .agg #[.int .i64 a1_0, .int .i64 a1_1, .int .i64 a1_2, .int .i64 a1_3]] rfl (by (try simp only [xm_', xc_', xn_']); first | done | rfl | (simp only [xd_', xt_']; rfl)) ?_; (with_reducible refine (spec_l8Put.calls k _ _ l0 a1_0 a1_1 a1_2 a1_3 t196 _ ?side1 ?side2 A3.out).mono ?_); (case side1 => repeat (first | exact (Kd.C_below HR0.out HB.out) | (with_reducible refine xg_' ?_ _) | (with_reducible refine xe_' ?_ _) | (with_reducible refine xf_' ?_))); (case side2 => exact HC0.out); rintro e w14 ⟨v197, rfl, ho0, hb⟩; refine ⟨_, rfl, ?_⟩; have n0_ := sk_' (Kd.R_lower (Kd.R_newB ho0 (g := gb195) (o := .cells #[.int .i64 a1_0, .int .i64 a1_1, .int .i64 a1_2, .int .i64 a1_3] 26 (0, 0)) (by (with_reducible repeat (first | refine kn_' ?_ _ | refine kd_' ?_ | refine ka_' ?_ _)); exact BK195.out)) (ps_' (by repeat (first | (with_reducible first | exact HB.out | apply pa_' | apply pn_' | apply pd_' | refine pt_' ?_ GE195.out) | exact HB.out)))); have n1_ := sk_' (blk_below (g := gb195) (o := .cells #[.int .i64 a1_0, .int .i64 a1_1, .int .i64 a1_2, .int .i64 a1_3] 26 (0, 0)) (by (with_reducible repeat (first | refine kn_' ?_ _ | refine kd_' ?_ | refine ka_' ?_ _)); exact BK195.out) hb); have n2_ := sk_' (pp_' (by repeat (first | (with_reducible first | exact HB.out | apply pa_' | apply pn_' | apply pd_' | refine pt_' ?_ GE195.out) | exact HB.out)) hb); clear BK195; clear HB; have HO198 := n0_; have BK195 := n1_; have HB := n2_; clear n0_ n1_ n2_; (try clear hb); (try clear hb2); (try clear hk); (try clear hi); (try clear ho0); obtain ⟨Ao15, co15, eo15⟩ := Kd.R_slice HO198.out; subst eo15) | ((with_reducible refine xj_' (f := 97) rfl ?_); refine goesL_ (some 11) rfl rfl Try.func97 (by kernel_rfl) rfl #[.slice Ao15 t196.length co15] rfl (by (try simp only [xm_', xc_', xn_']); first | done | rfl | (simp only [xd_', xt_']; rfl)) ?_; (with_reducible refine (spec_IsScore.calls k _ _ t196 false _ ?side1 ?side2 A4.out).mono ?_); (case side1 => repeat (first | exact (xr_' HO198.out).2.2 | (with_reducible refine xg_' ?_ _) | (with_reducible refine xe_' ?_ _) | (with_reducible refine xf_' ?_))); (case side2 => exact (xr_' HO198.out).2.1); rintro e w16 ⟨rfl, hb⟩; refine ⟨_, rfl, ?_⟩; have n0_ := sk_' (xb_' (by (with_reducible repeat (first | apply ra_' | apply rn_' | apply rd1_')); exact HO198.out) hb); have n1_ := sk_' (blk_below (g := gb195) (o := .cells #[.int .i64 a1_0, .int .i64 a1_1, .int .i64 a1_2, .int .i64 a1_3] 26 (0, 0)) (by (with_reducible repeat (first | refine kn_' ?_ _ | refine kd_' ?_ | refine ka_' ?_ _)); exact BK195.out) hb); have n2_ := sk_' (pp_' (by repeat (first | (with_reducible first | exact HB.out | apply pa_' | apply pn_' | apply pd_' | refine pt_' ?_ GE195.out) | exact HB.out)) hb); clear HO198; clear BK195; clear HB; have HO198 := n0_; have BK195 := n1_; have HB := n2_; clear n0_ n1_ n2_; (try clear hb); (try clear hb2); (try clear hk); (try clear hi)) | ((with_reducible refine gate_dst (N := 13) rfl ?_); refine Kd.R_lit k26 _ 26 ?hg (N := 13) ?hd (xs := ([] : List (S26))) (inner := []) (ok := fun _ => True) (okp := fun _ => True) ?hr ?hp (fun _ hk => hk) trivial (Below.refl _ _) (Nat.le_refl _) (by simp) ?_; (case hd => rfl); (case hg => rfl); (case hr => first | (go_simp; done) | (go_simp; rfl)); (case hp => exact (Reps.none _ _)); intro v201 w17 ho18 hb hg_ hnew_; clear hg_ hnew_; (first | rw [← Ny200.out] at ho18 | (simp only [Int.reduceToNat] at ho18; rw [← Ny200.out] at ho18)); have n0_ := sk_' (Kd.R_elder' (by (with_reducible repeat (first | apply ra_' | apply rn_' | apply rd1_')); exact HO198.out) (Kd.R_base ho18) hb); have n1_ := sk_' (Kd.R_lower (Kd.R_newB (Kd.R_new' ho18 (Kd.R_lt (by (with_reducible repeat (first | apply ra_' | apply rn_' | apply rd1_')); exact HO198.out))) (g := gb195) (o := .cells #[.int .i64 a1_0, .int .i64 a1_1, .int .i64 a1_2, .int .i64 a1_3] 26 (0, 0)) (by (with_reducible repeat (first | refine kn_' ?_ _ | refine kd_' ?_ | refine ka_' ?_ _)); exact BK195.out)) (ps_' (by repeat (first | (with_reducible first | exact HB.out | apply pa_' | apply pn_' | apply pd_' | refine pt_' ?_ GE195.out) | exact HB.out)))); have n2_ := sk_' (blk_below (g := gb195) (o := .cells #[.int .i64 a1_0, .int .i64 a1_1, .int .i64 a1_2, .int .i64 a1_3] 26 (0, 0)) (by (with_reducible repeat (first | refine kn_' ?_ _ | refine kd_' ?_ | refine ka_' ?_ _)); exact BK195.out) hb); have n3_ := sk_' (pp_' (by repeat (first | (with_reducible first | exact HB.out | apply pa_' | apply pn_' | apply pd_' | refine pt_' ?_ GE195.out) | exact HB.out)) hb); clear HO198; clear BK195; clear HB; have HO198 := n0_; have HO202 := n1_; have BK195 := n2_; have HB := n3_; clear n0_ n1_ n2_ n3_; clear hb ho18) | ((with_reducible refine gate_builtin (b := .append) (xs := #[.tmp 13, .tmp 14]) rfl ?_); at_builtin; refine Kd.R_append_rows k26 (w0 := w) w.heap.size rfl (.tmp 13) (.tmp 14) 24 26 (.agg #[(.int .i64 0), (.int .i64 0), (.int .i64 0), (.int .i64 0)]) 32 rfl Try.underlying24 info26 rfl (by decide) (by omega) v201 y200 l0 _ _ _ (fun k_ => some k_ ≠ (.slice Ao15 t196.length co15 : Value).ownBlock ∧ k_ ≠ gb195) (fun _ => False) rfl rfl ?aO ?aR (fun _ _ h => h) (fun _ h => h.elim) ?aF ?aB ?aS ?aL ?_; (case aR => repeat (first | exact (Kd.C_below HR0.out HB.out) | (with_reducible refine xg_' ?_ _) | (with_reducible refine xe_' ?_ _) | (with_reducible refine xf_' ?_))); (case aB => exact (by repeat (first | (with_reducible first | exact HB.out | apply pa_' | apply pn_' | apply pd_' | refine pt_' ?_ GE195.out) | exact HB.out))); (case aF => exact (fun k_ hk => ⟨Kd.fresh' (Kd.R_lt (by (with_reducible repeat (first | apply ra_' | apply rn_' | apply rd1_')); exact HO198.out)) k_ hk, Kd.freshB (g := gb195) (o := .cells #[.int .i64 a1_0, .int .i64 a1_1, .int .i64 a1_2, .int .i64 a1_3] 26 (0, 0)) (by (with_reducible repeat (first | refine kn_' ?_ _ | refine kd_' ?_ | refine ka_' ?_ _)); exact BK195.out) k_ hk⟩)); (case aO => exact (by (with_reducible repeat (first | apply ra_' | apply rn_' | apply rd1_')); exact xi_' HO202.out (fun _ hk => ⟨hk.1.2, hk.2⟩))); (case aS => exact (ps_' (by repeat (first | (with_reducible first | exact HB.out | apply pa_' | apply pn_' | apply pd_' | refine pt_' ?_ GE195.out) | exact HB.out)))); (case aL => have := LMc11.out; omega); intro v204 w19 ho hb hg hat; rw [← Ny203.out] at ho; have n0_ := sk_' (blk_grown (g := gb195) (o := .cells #[.int .i64 a1_0, .int .i64 a1_1, .int .i64 a1_2, .int .i64 a1_3] 26 (0, 0)) (by (with_reducible repeat (first | refine kn_' ?_ _ | refine kd_' ?_ | refine ka_' ?_ _)); exact BK195.out) hg (Kd.R_away HO202.out (fun _ hk => hk.2))); have n1_ := sk_' (Kd.R_after (ok := (fun k_ => k_ ≠ gb195)) (by (with_reducible repeat (first | apply ra_' | apply rn_' | apply rd1_')); exact xi_' HO198.out (fun _ hk => ⟨hk.1.2, hk.2⟩)) hg hat); have n2_ := sk_' (hb); have n3_ := sk_' (ho); clear BK195; clear HO198; clear HB; clear HO202; have BK195 := n0_; have HO198 := n1_; have HB := n2_; have HO205 := n3_; clear n0_ n1_ n2_ n3_; clear ho hb hg hat))
  go_ret2
  exact ⟨_, by first | rfl | (simp [errW_none, errW_some] <;> rfl) | (simp [*, errW_none, errW_some] <;> rfl), by (with_reducible repeat (first | apply ra_' | apply rn_' | apply rd1_')); exact xi_' HO205.out (fun _ hk => trivial), by repeat (first | (with_reducible first | exact HB.out | apply pa_' | apply pn_' | apply pd_' | refine pt_' ?_ GE195.out) | exact HB.out)⟩
 rw [if_neg c11] at H
 exact absurd H (by simp)
end Go.Proofs.Ytbhlmeghbfmgiaa.F

namespace Go.Proofs.Ytbhlmeghbfmgiaa.F
open Go.RowKit Go.Proofs.YtbhlmeghbfmgiaaW.PrintWords Go.Proofs.YtbhlmeghbfmgiaaW.PrintLast Go.Proofs.YtbhlmeghbfmgiaaW.PrintMore
attribute [local go_sem] max2_int min2_int max_two min_two max_three min_three max_four min_four
set_option linter.unusedVariables false
set_option linter.unusedSimpArgs false
def spec_l8Draw.l0 : Nat → List (S26) → Int → List Int → Int → Int → Option ((List (S26)) × Int × Int)
 | 0, _, _, _, _, _ => none
 | k + 1, x3, x4, x1000, x1001, x1002 => if x4 > 0 then ((spec_l8Event.f x1000 x1001 x1002).bind fun bt212 => ((spec_PutEvent.f k x3 bt212.1 bt212.2.1 bt212.2.2.1 bt212.2.2.2.1).bind fun bt218 => (spec_l8Draw.l0 k bt218.1 (wrap64 (x4 - 1)) x1000 bt212.2.2.2.2.1 bt212.2.2.2.2.2))) else (some (x3, x1001, x1002))
def spec_l8Draw.f (k : Nat) (s0_0 : List Int) (s0_1 : Int) (s0_2 : Int) : Option ((List (S26)) × Int × Int) := (spec_l1Below.f s0_0 s0_1 s0_2 13).bind fun bt209 => (spec_l8Draw.l0 k (([] : List (S26))) bt209.1 s0_0 bt209.2.1 bt209.2.2)
set_option maxHeartbeats 8000000 in
set_option maxRecDepth 100000 in
theorem spec_l8Draw.calls (k : Nat) (g : Nat) (s0_0 : List Int) (s0_1 : Int) (s0_2 : Int) (r1 : List (S26)) (r2 : Int) (r3 : Int) (w0 w : World) (hI : IsS157 w0 w g s0_0 s0_1 s0_2) (hB : Below w0.heap.size w0 w) (h : spec_l8Draw.f k s0_0 s0_1 s0_2 = some (r1, r2, r3)) :
  Calls Try.prog 129 #[.pointer (some ⟨g, 0, none⟩)] w fun e w' => ∃ v0_ : Value, e = .returned (v0_) ∧ Kd.R k26 26 w' w.heap.size (fun _ => True) v0_ r1 ∧ IsS157 w0 w' g s0_0 r2 r3 ∧ Below w0.heap.size w0 w' ∧ KeepBut w w' g none := by
 have HI0 := sk_' hI
 have HK := sk_' (KeepBut.refl w g none)
 have HL := sk_' hB.size
 clear hI
 have HW0 := sk_' hB.size
 have HB := sk_' hB
 clear hB
 have H : ((spec_l1Below.f s0_0 s0_1 s0_2 13).bind fun bt209 => (spec_l8Draw.l0 k (([] : List (S26))) bt209.1 s0_0 bt209.2.1 bt209.2.2)) = some (r1, r2, r3) := h
 clear h
 obtain ⟨y206, hy206⟩ : ∃ y_ : List (S26), y_ = (([] : List (S26))) := ⟨_, rfl⟩
 replace H : ((spec_l1Below.f s0_0 s0_1 s0_2 13).bind fun bt209 => (spec_l8Draw.l0 k y206 bt209.1 s0_0 bt209.2.1 bt209.2.2)) = some (r1, r2, r3) := by first | (rw [hy206]; with_reducible exact H) | (have H2_ := (Option.bind_some _ _).symm.trans H; rw [hy206]; with_reducible exact H2_) | (have H2_ := (Option.bind_some _ _).symm.trans H; with_reducible exact H2_) | with_reducible exact H | (rw [hy206]; exact H) | exact H
 have Ny206 := sk_' hy206
 clear hy206
 replace H := bs_' H
 obtain ⟨⟨t209, t210, t211⟩, A20, H⟩ := H
 try dsimp only at H
 have A2 := sk_' A20
 clear A20
 have H' := sk_' H
 clear H
 go_enter Try.func129, Try.ntmps129
 go_wp2_with (first | ((with_reducible refine gate_dst (N := 5) rfl ?_); refine Kd.R_lit k26 _ 26 ?hg (N := 5) ?hd (xs := ([] : List (S26))) (inner := []) (ok := fun _ => True) (okp := fun _ => True) ?hr ?hp (fun _ hk => hk) trivial (Below.refl _ _) (Nat.le_refl _) (by simp) ?_; (case hd => rfl); (case hg => rfl); (case hr => first | (go_simp; done) | (go_simp; rfl)); (case hp => exact (Reps.none _ _)); intro v207 w3 ho4 hb hg_ hnew_; clear hg_ hnew_; (first | rw [← Ny206.out] at ho4 | (simp only [Int.reduceToNat] at ho4; rw [← Ny206.out] at ho4)); have n0_ := sk_' (Kd.R_lower ho4 (keep_size (w := w) (g := g) (row := none) (by repeat (first | (with_reducible first | exact HK.out | apply KeepBut.set_ | apply keep_drewN | apply keep_drew | apply keep_alloc) | exact HK.out)))); have n1_ := sk_' (IsS157.below (by repeat (first | (with_reducible first | exact HI0.out | apply IsS157.alloc | apply IsS157.drewN | apply IsS157.drew | apply IsS157.set_1 | apply IsS157.set_2) | exact HI0.out)) hb); have n2_ := sk_' (KeepBut.trans (by repeat (first | (with_reducible first | exact HK.out | apply KeepBut.set_ | apply keep_drewN | apply keep_drew | apply keep_alloc) | exact HK.out)) (KeepBut.of_below hb g none) (.inl rfl)); have n3_ := sk_' (pp_' (by repeat (first | (with_reducible first | exact HB.out | apply pa_' | apply pn_' | apply pd_' | refine pt_' ?_ (IsS157.ge HI0.out)) | exact HB.out)) hb); clear HI0; clear HK; clear HB; have HO208 := n0_; have HI0 := n1_; have HK := n2_; have HB := n3_; clear n0_ n1_ n2_ n3_; clear hb ho4) | ((with_reducible refine xj_' (f := 91) rfl ?_); refine goesL_ (some 7) rfl rfl Try.func91 (by kernel_rfl) rfl #[.pointer (some ⟨g, 0, none⟩), .int .i64 13] rfl (by (try simp only [xm_', xc_', xn_']); first | done | rfl | (simp only [xd_', xt_']; rfl)) ?_; (with_reducible refine (spec_l1Below.calls g s0_0 s0_1 s0_2 13 t209 t210 t211 w0 _ ?side1 ?side2 A2.out).mono ?_); (case side1 => repeat (first | (with_reducible first | exact HI0.out | apply IsS157.alloc | apply IsS157.drewN | apply IsS157.drew | apply IsS157.set_1 | apply IsS157.set_2) | exact HI0.out)); (case side2 => repeat (first | (with_reducible first | exact HB.out | apply pa_' | apply pn_' | apply pd_' | refine pt_' ?_ (IsS157.ge HI0.out)) | exact HB.out)); rintro e w5 ⟨rfl, hi, hb, hk⟩; refine ⟨_, rfl, ?_⟩; have n0_ := sk_' (xi_' (Kd.R_keep (IsS157.apart (show IsS157 w0 _ g s0_0 s0_1 s0_2 from by repeat (first | (with_reducible first | exact HI0.out | apply IsS157.alloc | apply IsS157.drewN | apply IsS157.drew | apply IsS157.set_1 | apply IsS157.set_2) | exact HI0.out)) (by (with_reducible repeat (first | apply ra_' | apply rn_' | apply rd1_')); exact HO208.out) (by decide)) hk (fun _ h => h.2)) (fun _ h => h.1)); have n1_ := sk_' (KeepBut.trans (by repeat (first | (with_reducible first | exact HK.out | apply KeepBut.set_ | apply keep_drewN | apply keep_drew | apply keep_alloc) | exact HK.out)) hk (.inl rfl)); have n2_ := sk_' (hb); have n3_ := sk_' (hi); clear HO208; clear HK; clear HB; clear HI0; have HO208 := n0_; have HK := n1_; have HB := n2_; have HI0 := n3_; clear n0_ n1_ n2_ n3_; (try clear hb); (try clear hb2); (try clear hk); (try clear hi)))
 go_loopg [3, 4] k (fun kq v3 v4 w' => ∃ (x3_1 : List (S26)) (x4_1 : Int) (x1001_1 : Int) (x1002_1 : Int), v4 = .int .i64 x4_1 ∧ Aside0 (spec_l8Draw.l0 kq x3_1 x4_1 s0_0 x1001_1 x1002_1 = some (r1, r2, r3)) ∧ Aside0 (kq ≤ k) ∧ Aside0 (Kd.R k26 26 w' w.heap.size (fun _ => True) v3 x3_1) ∧ Aside0 (IsS157 w0 w' g s0_0 x1001_1 x1002_1) ∧ Aside0 (KeepBut w w' g none) ∧ Aside0 (Below w0.heap.size w0 w'))
 case atStart => exact ⟨(y206), (t209), (t210), (t211), (by first | rfl | (simp; done) | (simp [*]; done)), H', ⟨Nat.le_refl _⟩, ⟨by (with_reducible repeat (first | apply ra_' | apply rn_' | apply rd1_')); exact HO208.out⟩, ⟨by repeat (first | (with_reducible first | exact HI0.out | apply IsS157.alloc | apply IsS157.drewN | apply IsS157.drew | apply IsS157.set_1 | apply IsS157.set_2) | exact HI0.out)⟩, ⟨by repeat (first | (with_reducible first | exact HK.out | apply KeepBut.set_ | apply keep_drewN | apply keep_drew | apply keep_alloc) | exact HK.out)⟩, ⟨by repeat (first | (with_reducible first | exact HB.out | apply pa_' | apply pn_' | apply pd_' | refine pt_' ?_ (IsS157.ge HI0.out)) | exact HB.out)⟩⟩
 case round =>
  clear H'
  try clear c1
  try clear p2
  obtain ⟨x3_1, x4_1, x1001_1, x1002_1, rfl, HA, HK1, HO_3, HI0, HK, HB⟩ := hrel
  cases gk with
  | zero => exact absurd HA.out (by simp [spec_l8Draw.l0])
  | succ k1 =>
   have H := HA.out
   clear HA
   simp only [spec_l8Draw.l0] at H
   by_cases c6 : x4_1 > 0
   ·
    rw [if_pos c6] at H
    have c6b0 : decide (0 < x4_1) = true := decide_eq_true c6
    clear c6
    replace H := bs_' H
    obtain ⟨⟨t212, t213, t214, t215, t216, t217⟩, A70, H⟩ := H
    try dsimp only at H
    have A7 := sk_' A70
    clear A70
    replace H := bs_' H
    obtain ⟨⟨t218, t221⟩, A80, H⟩ := H
    try dsimp only at H
    have A8 := sk_' A80
    clear A80
    have H' := sk_' H
    clear H
    go_wp2_with (first | ((with_reducible refine xj_' (f := 76) rfl ?_); refine goesL_ (some 15) rfl rfl Try.func76 (by kernel_rfl) rfl #[.pointer (some ⟨g, 0, none⟩)] rfl (by (try simp only [xm_', xc_', xn_']); first | done | rfl | (simp only [xd_', xt_']; rfl)) ?_; (with_reducible refine (spec_l8Event.calls g s0_0 x1001_1 x1002_1 t212 t213 t214 t215 t216 t217 w0 _ ?side1 ?side2 A7.out).mono ?_); (case side1 => repeat (first | (with_reducible first | exact HI0.out | apply IsS157.alloc | apply IsS157.drewN | apply IsS157.drew | apply IsS157.set_1 | apply IsS157.set_2) | exact HI0.out)); (case side2 => repeat (first | (with_reducible first | exact HB.out | apply pa_' | apply pn_' | apply pd_' | refine pt_' ?_ (IsS157.ge HI0.out)) | exact HB.out)); rintro e w9 ⟨rfl, hi, hb, hk⟩; refine ⟨_, rfl, ?_⟩; have n0_ := sk_' (xi_' (Kd.R_keep (IsS157.apart (show IsS157 w0 _ g s0_0 x1001_1 x1002_1 from by repeat (first | (with_reducible first | exact HI0.out | apply IsS157.alloc | apply IsS157.drewN | apply IsS157.drew | apply IsS157.set_1 | apply IsS157.set_2) | exact HI0.out)) (by (with_reducible repeat (first | apply ra_' | apply rn_' | apply rd1_')); exact HO_3.out) (by decide)) hk (fun _ h => h.2)) (fun _ h => h.1)); have n1_ := sk_' (KeepBut.trans (by repeat (first | (with_reducible first | exact HK.out | apply KeepBut.set_ | apply keep_drewN | apply keep_drew | apply keep_alloc) | exact HK.out)) hk (.inl rfl)); have n2_ := sk_' (hb); have n3_ := sk_' (hi); clear HO_3; clear HK; clear HB; clear HI0; have HO_3 := n0_; have HK := n1_; have HB := n2_; have HI0 := n3_; clear n0_ n1_ n2_ n3_; (try clear hb); (try clear hb2); (try clear hk); (try clear hi); obtain ⟨Ao10, co10, eo10⟩ := Kd.R_slice HO_3.out; subst eo10) | ((with_reducible refine xj_' (f := 158) rfl ?_); refine goesL_ (some 16) rfl rfl Try.func158 (by kernel_rfl) rfl #[.slice Ao10 x3_1.length co10, .agg #[.int .i64 t212, .int .i64 t213, .int .i64 t214, .int .i64 t215]] rfl (by (try simp only [xm_', xc_', xn_']); first | done | rfl | (simp only [xd_', xt_']; rfl)) ?_; (with_reducible refine (spec_PutEvent.calls k1 _ _ x3_1 t212 t213 t214 t215 t218 t221 _ ?side1 ?side2 A8.out).mono ?_); (case side1 => repeat (first | exact (xr_' HO_3.out).2.2 | (with_reducible refine xg_' ?_ _) | (with_reducible refine xe_' ?_ _) | (with_reducible refine xf_' ?_))); (case side2 => exact (xr_' HO_3.out).2.1); rintro e w11 ⟨v219, rfl, ho0, hb⟩; refine ⟨_, rfl, ?_⟩; have n0_ := sk_' (Kd.R_elder' (by (with_reducible repeat (first | apply ra_' | apply rn_' | apply rd1_')); exact HO_3.out) (Kd.R_base ho0) hb); have n1_ := sk_' (Kd.R_lower (Kd.R_new' ho0 (Kd.R_lt (by (with_reducible repeat (first | apply ra_' | apply rn_' | apply rd1_')); exact HO_3.out))) (keep_size (w := w) (g := g) (row := none) (by repeat (first | (with_reducible first | exact HK.out | apply KeepBut.set_ | apply keep_drewN | apply keep_drew | apply keep_alloc) | exact HK.out)))); have n2_ := sk_' (IsS157.below (by repeat (first | (with_reducible first | exact HI0.out | apply IsS157.alloc | apply IsS157.drewN | apply IsS157.drew | apply IsS157.set_1 | apply IsS157.set_2) | exact HI0.out)) hb); have n3_ := sk_' (KeepBut.trans (by repeat (first | (with_reducible first | exact HK.out | apply KeepBut.set_ | apply keep_drewN | apply keep_drew | apply keep_alloc) | exact HK.out)) (KeepBut.of_below hb g none) (.inl rfl)); have n4_ := sk_' (pp_' (by repeat (first | (with_reducible first | exact HB.out | apply pa_' | apply pn_' | apply pd_' | refine pt_' ?_ (IsS157.ge HI0.out)) | exact HB.out)) hb); clear HO_3; clear HI0; clear HK; clear HB; have HO_3 := n0_; have HO220 := n1_; have HI0 := n2_; have HK := n3_; have HB := n4_; clear n0_ n1_ n2_ n3_ n4_; (try clear hb); (try clear hb2); (try clear hk); (try clear hi); (try clear ho0)))
    go_roundg k1
    case measure => have := HK1.out; omega
    case rel => exact ⟨(t218), (wrap64 (x4_1 - 1)), (t216), (t217), (by first | rfl | (simp; done) | (simp [*]; done)), H', ⟨by have := HK1.out; omega⟩, ⟨by (with_reducible repeat (first | apply ra_' | apply rn_' | apply rd1_')); exact xi_' HO220.out (fun _ hk => trivial)⟩, ⟨by repeat (first | (with_reducible first | exact HI0.out | apply IsS157.alloc | apply IsS157.drewN | apply IsS157.drew | apply IsS157.set_1 | apply IsS157.set_2) | exact HI0.out)⟩, ⟨by repeat (first | (with_reducible first | exact HK.out | apply KeepBut.set_ | apply keep_drewN | apply keep_drew | apply keep_alloc) | exact HK.out)⟩, ⟨by repeat (first | (with_reducible first | exact HB.out | apply pa_' | apply pn_' | apply pd_' | refine pt_' ?_ (IsS157.ge HI0.out)) | exact HB.out)⟩⟩
   rw [if_neg c6] at H
   have c6b0 : decide (0 < x4_1) = false := decide_eq_false c6
   clear c6
   simp only [Option.some.injEq, Prod.mk.injEq] at H
   obtain ⟨rfl, rfl, rfl⟩ := H
   go_wp2
   go_ret
   exact ⟨_, by first | rfl | (simp [errW_none, errW_some] <;> rfl) | (simp [*, errW_none, errW_some] <;> rfl), by (with_reducible repeat (first | apply ra_' | apply rn_' | apply rd1_')); exact HO_3.out, by repeat (first | (with_reducible first | exact HI0.out | apply IsS157.alloc | apply IsS157.drewN | apply IsS157.drew | apply IsS157.set_1 | apply IsS157.set_2) | exact HI0.out), by repeat (first | (with_reducible first | exact HB.out | apply pa_' | apply pn_' | apply pd_' | refine pt_' ?_ (IsS157.ge HI0.out)) | exact HB.out), by repeat (first | (with_reducible first | exact HK.out | apply KeepBut.set_ | apply keep_drewN | apply keep_drew | apply keep_alloc) | exact HK.out)⟩
end Go.Proofs.Ytbhlmeghbfmgiaa.F
