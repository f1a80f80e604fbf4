/- FnExactPlayScore, part 2 of 7: texts of the claim, joined into one file. -/
import Derived.Test.YtiophiipmgpaeaaZFnExactPlayScore1
import Derived.Test.YtiophiipmgpaeaaProg
import Derived.Below
import Derived.Deep.Draws
import Derived.Deep.AppendLies
import Derived.Maps.AppendAt
import Derived.OwnWalk
import Derived.Laws.BytesArg
import Derived.Laws.MakeOwn
import Derived.Laws.OwnMore
import Derived.Deep.OwnRows
import Derived.Tactics
import Derived.Lib.ConvBytes
import Derived.Laws.Slices
import Derived.WalkKit
import Derived.KernelRfl
import Derived.RowKit3
import Derived.Deep.LoopGhost
import Derived.Deep.QuietTactic
import Derived.BigQuiet
import Derived.WideLaws
import Derived.Deep.DeepCutAuto
import Derived.Deep.CutBlock
import Derived.Deep.RegionHeld3
import Derived.Laws.Rows
import Derived.Lib.AppendStr
import Derived.ArgAppend
import Derived.Laws.IdiomCopy
import Derived.OrdersHeld
import Derived.Laws.BitsLemmas
import Derived.RowKit

namespace Go.Proofs.Ytiophiipmgpaeaa.F
open Go.RowKit Go.Proofs.YtiophiipmgpaeaaW.PrintWords Go.Proofs.YtiophiipmgpaeaaW.PrintLast Go.Proofs.YtiophiipmgpaeaaW.PrintMore
attribute [local go_sem] max2_int min2_int max_two min_two max_three min_three max_four min_four
set_option linter.unusedVariables false
set_option linter.unusedSimpArgs false
def errW : Option Int → Value
 | none => .nilIface
 | some c => .iface 0 (.int .i64 c)
theorem errW_none : errW none = .nilIface := rfl
theorem errW_some (c : Int) : errW (some c) = .iface 0 (.int .i64 c) := rfl
theorem info109 : (Try.prog.info? 109).map (fun i => (i.zero, i.size, i.bytes)) = some (some (.agg #[(.int .i64 0), (.int .i64 0)]), 2, 16) := by kernel_rfl
theorem info118 : (Try.prog.info? 118).map (fun i => (i.zero, i.size, i.bytes)) = some (some (.agg #[(.int .i64 0), (.int .i64 0), (.int .i64 0), (.int .i64 0)]), 4, 32) := by kernel_rfl
theorem info140 : (Try.prog.info? 140).map (fun i => (i.zero, i.size, i.bytes)) = some (some (.agg #[(.int .i64 0), (.int .i64 0)]), 2, 16) := by kernel_rfl
structure S105 where
 f0 : Int
 f1 : Int
 f2 : Int
structure S103 where
 f0 : Int
 f1 : Int
 f2 : Int
structure S111 where
 f0 : Int
 f1 : Int
structure S109 where
 f0 : Int
 f1 : Int
def z109 : S109 := ⟨(0 : Int), (0 : Int)⟩
def k109 : Kd S109 := Kd.iso (Kd.pair (Kd.int .i64) (Kd.int .i64)) (fun x : S109 => (x.f0, x.f1))
theorem k109_open {w : World} {x : S109} {cs : List Value} (h : k109.K w x cs) : cs = [.int .i64 x.f0, .int .i64 x.f1] := by
 obtain ⟨_, _, rfl, rfl, rfl⟩ := h
 exact rfl
theorem k109_openM {w : World} {base : Nat} {ok : Nat → Prop} {x : S109} {cs : List Value} (h : k109.M w base ok x cs) : cs = [.int .i64 x.f0, .int .i64 x.f1] := by
 obtain ⟨_, _, rfl, rfl, rfl⟩ := h
 exact rfl
theorem k109_mkM (w : World) (base : Nat) (ok : Nat → Prop) (x : S109)  : k109.M w base ok x [.int .i64 x.f0, .int .i64 x.f1] := ⟨[.int .i64 x.f0], [.int .i64 x.f1], rfl, rfl, rfl⟩
def rd_T109 (xs : List S109) (i : Int) : S109 := xs.getD i.toNat z109
theorem at_T109 {w : World} {A : Option Addr} {n : Nat} {xs : List S109} (h : Kd.C k109 w A n xs) (i : Int) (h0 : 0 ≤ i) (h1 : i < n) : ∃ ad , A = some ad ∧ w.cell? (ad.add (i.toNat * 2)) = some (.int .i64 (rd_T109 xs i).f0) ∧ w.cell? ⟨(ad.add (i.toNat * 2)).block, (ad.add (i.toNat * 2)).off + 1, none⟩ = some (.int .i64 (rd_T109 xs i).f1) := by
 obtain ⟨ad, c, e, _, hK, hc0⟩ := Kd.C_get h z109 i h0 h1
 have hc : ∀ j u, c[j]? = some u → w.cell? (ad.add (i.toNat * 2 + j)) = some u := hc0
 obtain rfl := k109_open hK
 exact ⟨ad, e, hc 0 _ rfl, by rw [← add_field _ _ 1 (by omega)]; exact hc 1 _ rfl⟩
structure S120 where
 f0 : Int
 f1 : Int
 f2 : Int
structure S116 where
 f0 : Int
 f1 : Int
 f2 : Int
structure S118 where
 f0 : Int
 f1 : Int
 f2 : Int
 f3 : Int
def z118 : S118 := ⟨(0 : Int), (0 : Int), (0 : Int), (0 : Int)⟩
def k118 : Kd S118 := Kd.iso (Kd.pair (Kd.int .i64) (Kd.pair (Kd.int .i64) (Kd.pair (Kd.int .i64) (Kd.int .i64)))) (fun x : S118 => (x.f0, x.f1, x.f2, x.f3))
theorem k118_open {w : World} {x : S118} {cs : List Value} (h : k118.K w x cs) : cs = [.int .i64 x.f0, .int .i64 x.f1, .int .i64 x.f2, .int .i64 x.f3] := by
 obtain ⟨_, _, rfl, rfl, ⟨_, _, rfl, rfl, ⟨_, _, rfl, rfl, rfl⟩⟩⟩ := h
 exact rfl
theorem k118_openM {w : World} {base : Nat} {ok : Nat → Prop} {x : S118} {cs : List Value} (h : k118.M w base ok x cs) : cs = [.int .i64 x.f0, .int .i64 x.f1, .int .i64 x.f2, .int .i64 x.f3] := by
 obtain ⟨_, _, rfl, rfl, ⟨_, _, rfl, rfl, ⟨_, _, rfl, rfl, rfl⟩⟩⟩ := h
 exact rfl
theorem k118_mkM (w : World) (base : Nat) (ok : Nat → Prop) (x : S118)  : k118.M w base ok x [.int .i64 x.f0, .int .i64 x.f1, .int .i64 x.f2, .int .i64 x.f3] := ⟨[.int .i64 x.f0], [.int .i64 x.f1, .int .i64 x.f2, .int .i64 x.f3], rfl, rfl, ⟨[.int .i64 x.f1], [.int .i64 x.f2, .int .i64 x.f3], rfl, rfl, ⟨[.int .i64 x.f2], [.int .i64 x.f3], rfl, rfl, rfl⟩⟩⟩
def rd_T118 (xs : List S118) (i : Int) : S118 := xs.getD i.toNat z118
theorem at_T118 {w : World} {A : Option Addr} {n : Nat} {xs : List S118} (h : Kd.C k118 w A n xs) (i : Int) (h0 : 0 ≤ i) (h1 : i < n) : ∃ ad , A = some ad ∧ w.cell? (ad.add (i.toNat * 4)) = some (.int .i64 (rd_T118 xs i).f0) ∧ w.cell? ⟨(ad.add (i.toNat * 4)).block, (ad.add (i.toNat * 4)).off + 1, none⟩ = some (.int .i64 (rd_T118 xs i).f1) ∧ w.cell? ⟨(ad.add (i.toNat * 4)).block, (ad.add (i.toNat * 4)).off + 2, none⟩ = some (.int .i64 (rd_T118 xs i).f2) ∧ w.cell? ⟨(ad.add (i.toNat * 4)).block, (ad.add (i.toNat * 4)).off + 3, none⟩ = some (.int .i64 (rd_T118 xs i).f3) := by
 obtain ⟨ad, c, e, _, hK, hc0⟩ := Kd.C_get h z118 i h0 h1
 have hc : ∀ j u, c[j]? = some u → w.cell? (ad.add (i.toNat * 4 + j)) = some u := hc0
 obtain rfl := k118_open hK
 exact ⟨ad, e, hc 0 _ rfl, by rw [← add_field _ _ 1 (by omega)]; exact hc 1 _ rfl, by rw [← add_field _ _ 2 (by omega)]; exact hc 2 _ rfl, by rw [← add_field _ _ 3 (by omega)]; exact hc 3 _ rfl⟩
structure S126 where
 f0 : Int
 f1 : Int
 f2 : Int
 f3 : Int
def z126 : S126 := ⟨(0 : Int), (0 : Int), (0 : Int), (0 : Int)⟩
def k126 : Kd S126 := Kd.iso (Kd.pair (Kd.int .i64) (Kd.pair (Kd.int .i64) (Kd.pair (Kd.int .i64) (Kd.int .i64)))) (fun x : S126 => (x.f0, x.f1, x.f2, x.f3))
theorem k126_open {w : World} {x : S126} {cs : List Value} (h : k126.K w x cs) : cs = [.int .i64 x.f0, .int .i64 x.f1, .int .i64 x.f2, .int .i64 x.f3] := by
 obtain ⟨_, _, rfl, rfl, ⟨_, _, rfl, rfl, ⟨_, _, rfl, rfl, rfl⟩⟩⟩ := h
 exact rfl
theorem k126_mk (w : World) (x : S126)  : k126.K w x [.int .i64 x.f0, .int .i64 x.f1, .int .i64 x.f2, .int .i64 x.f3] := ⟨[.int .i64 x.f0], [.int .i64 x.f1, .int .i64 x.f2, .int .i64 x.f3], rfl, rfl, ⟨[.int .i64 x.f1], [.int .i64 x.f2, .int .i64 x.f3], rfl, rfl, ⟨[.int .i64 x.f2], [.int .i64 x.f3], rfl, rfl, rfl⟩⟩⟩
def rd_T126 (xs : List S126) (i : Int) : S126 := xs.getD i.toNat z126
theorem at_T126 {w : World} {A : Option Addr} {n : Nat} {xs : List S126} (h : Kd.C k126 w A n xs) (i : Int) (h0 : 0 ≤ i) (h1 : i < n) : ∃ ad , A = some ad ∧ w.cell? (ad.add (i.toNat * 4)) = some (.int .i64 (rd_T126 xs i).f0) ∧ w.cell? ⟨(ad.add (i.toNat * 4)).block, (ad.add (i.toNat * 4)).off + 1, none⟩ = some (.int .i64 (rd_T126 xs i).f1) ∧ w.cell? ⟨(ad.add (i.toNat * 4)).block, (ad.add (i.toNat * 4)).off + 2, none⟩ = some (.int .i64 (rd_T126 xs i).f2) ∧ w.cell? ⟨(ad.add (i.toNat * 4)).block, (ad.add (i.toNat * 4)).off + 3, none⟩ = some (.int .i64 (rd_T126 xs i).f3) := by
 obtain ⟨ad, c, e, _, hK, hc0⟩ := Kd.C_get h z126 i h0 h1
 have hc : ∀ j u, c[j]? = some u → w.cell? (ad.add (i.toNat * 4 + j)) = some u := hc0
 obtain rfl := k126_open hK
 exact ⟨ad, e, hc 0 _ rfl, by rw [← add_field _ _ 1 (by omega)]; exact hc 1 _ rfl, by rw [← add_field _ _ 2 (by omega)]; exact hc 2 _ rfl, by rw [← add_field _ _ 3 (by omega)]; exact hc 3 _ rfl⟩
structure S142 where
 f0 : Int
 f1 : Int
def z142 : S142 := ⟨(0 : Int), (0 : Int)⟩
def k142 : Kd S142 := Kd.iso (Kd.pair (Kd.int .i64) (Kd.int .i64)) (fun x : S142 => (x.f0, x.f1))
theorem k142_open {w : World} {x : S142} {cs : List Value} (h : k142.K w x cs) : cs = [.int .i64 x.f0, .int .i64 x.f1] := by
 obtain ⟨_, _, rfl, rfl, rfl⟩ := h
 exact rfl
theorem k142_mk (w : World) (x : S142)  : k142.K w x [.int .i64 x.f0, .int .i64 x.f1] := ⟨[.int .i64 x.f0], [.int .i64 x.f1], rfl, rfl, rfl⟩
def rd_T142 (xs : List S142) (i : Int) : S142 := xs.getD i.toNat z142
theorem at_T142 {w : World} {A : Option Addr} {n : Nat} {xs : List S142} (h : Kd.C k142 w A n xs) (i : Int) (h0 : 0 ≤ i) (h1 : i < n) : ∃ ad , A = some ad ∧ w.cell? (ad.add (i.toNat * 2)) = some (.int .i64 (rd_T142 xs i).f0) ∧ w.cell? ⟨(ad.add (i.toNat * 2)).block, (ad.add (i.toNat * 2)).off + 1, none⟩ = some (.int .i64 (rd_T142 xs i).f1) := by
 obtain ⟨ad, c, e, _, hK, hc0⟩ := Kd.C_get h z142 i h0 h1
 have hc : ∀ j u, c[j]? = some u → w.cell? (ad.add (i.toNat * 2 + j)) = some u := hc0
 obtain rfl := k142_open hK
 exact ⟨ad, e, hc 0 _ rfl, by rw [← add_field _ _ 1 (by omega)]; exact hc 1 _ rfl⟩
structure S140 where
 f0 : Int
 f1 : Int
def z140 : S140 := ⟨(0 : Int), (0 : Int)⟩
def k140 : Kd S140 := Kd.iso (Kd.pair (Kd.int .i64) (Kd.int .i64)) (fun x : S140 => (x.f0, x.f1))
theorem k140_open {w : World} {x : S140} {cs : List Value} (h : k140.K w x cs) : cs = [.int .i64 x.f0, .int .i64 x.f1] := by
 obtain ⟨_, _, rfl, rfl, rfl⟩ := h
 exact rfl
theorem k140_openM {w : World} {base : Nat} {ok : Nat → Prop} {x : S140} {cs : List Value} (h : k140.M w base ok x cs) : cs = [.int .i64 x.f0, .int .i64 x.f1] := by
 obtain ⟨_, _, rfl, rfl, rfl⟩ := h
 exact rfl
theorem k140_mkM (w : World) (base : Nat) (ok : Nat → Prop) (x : S140)  : k140.M w base ok x [.int .i64 x.f0, .int .i64 x.f1] := ⟨[.int .i64 x.f0], [.int .i64 x.f1], rfl, rfl, rfl⟩
def rd_T140 (xs : List S140) (i : Int) : S140 := xs.getD i.toNat z140
theorem at_T140 {w : World} {A : Option Addr} {n : Nat} {xs : List S140} (h : Kd.C k140 w A n xs) (i : Int) (h0 : 0 ≤ i) (h1 : i < n) : ∃ ad , A = some ad ∧ w.cell? (ad.add (i.toNat * 2)) = some (.int .i64 (rd_T140 xs i).f0) ∧ w.cell? ⟨(ad.add (i.toNat * 2)).block, (ad.add (i.toNat * 2)).off + 1, none⟩ = some (.int .i64 (rd_T140 xs i).f1) := by
 obtain ⟨ad, c, e, _, hK, hc0⟩ := Kd.C_get h z140 i h0 h1
 have hc : ∀ j u, c[j]? = some u → w.cell? (ad.add (i.toNat * 2 + j)) = some u := hc0
 obtain rfl := k140_open hK
 exact ⟨ad, e, hc 0 _ rfl, by rw [← add_field _ _ 1 (by omega)]; exact hc 1 _ rfl⟩
structure S154 where
 f0 : Int
 f1 : Int
 f2 : Int
structure S152 where
 f0 : Int
 f1 : Int
structure BelowW (w : World) where
 w2 : World
 h : Below w.heap.size w w2
instance (w : World) : Inhabited (BelowW w) := ⟨⟨w, Below.refl _ w⟩⟩
theorem BelowW.at {w : World} {a : Addr} {v : Value} (hq : w.cell? a = some v) (p : BelowW w) : p.w2.cell? a = some v := (p.h.cell (World.block_lt_of_cell? w _ hq)).trans hq
theorem BelowW.step {w : World} (p : BelowW w) {w1 : World} (hb : Below p.w2.heap.size p.w2 w1) : ∃ q : BelowW w, w1 = q.w2 := ⟨⟨w1, below_step p.h hb⟩, rfl⟩
theorem BelowW.drawn {w : World} (p : BelowW w) {w1 : World} (hb : Drawn0 p.w2 w1) : ∃ q : BelowW w, w1 = q.w2 := p.step hb.below
theorem BelowW.quiet {P : Program} {ops : Array Oper} {C : World → Prop} {Q Q' : Act → Prop} (hQ : ∀ a, Q a → Q' a) : ∀ (l : List Oper) (a : Act), wpQuiet P ops C Q l a → wpQuiet P ops C Q' l a
 | [], a, h => hQ a h
 | o :: l, a, h => by
  unfold wpQuiet at h ⊢
  split
  ·
   rename_i hw
   rw [if_pos hw] at h
   exact Oper.quiet_mono (BelowW.quiet hQ l) h
  ·
   rename_i hw
   rw [if_neg hw] at h
   exact BelowW.quiet hQ l _ h
theorem BelowW.region {P : Program} {id : Nat} {Q : Exit → Act → World → Prop} {a : Act} {w : World} {l : List Oper} (hm : P.follows .mixedOrders = true) (hB : Region.lexB .any l.toArray = true)
  (h : wpQuiet P l.toArray (fun w2 => ∃ p : BelowW w.drew, w2 = p.w2) (fun a' => ∀ w2, Below w.drew.heap.size w.drew w2 → Q .normal a' w2) l a) : (Code.region id l.toArray true).wp P Q a w :=
 wp_region_quiet (C := fun w2 => ∃ p : BelowW w.drew, w2 = p.w2) hm hB ⟨⟨w.drew, Below.refl _ _⟩, rfl⟩ (BelowW.quiet (fun a h w2 hw => by obtain ⟨p, rfl⟩ := hw; exact h _ p.h) _ _ (by simpa using h))
end Go.Proofs.Ytiophiipmgpaeaa.F

namespace Go.Proofs.Ytiophiipmgpaeaa.F
open Go.RowKit Go.Proofs.YtiophiipmgpaeaaW.PrintWords Go.Proofs.YtiophiipmgpaeaaW.PrintLast Go.Proofs.YtiophiipmgpaeaaW.PrintMore
theorem sk_' : type_of% @Aside0.mk := @Aside0.mk
theorem bq_' : type_of% @World.block_lt_of_cell? := @World.block_lt_of_cell?
theorem pn_' : type_of% @pw_below_drewN := @pw_below_drewN
theorem pd_' : type_of% @below_drew1 := @below_drew1
theorem pa_' : type_of% @below_alloc := @below_alloc
theorem kn_' : type_of% @blk_drewN := @blk_drewN
theorem kd_' : type_of% @blk_drew := @blk_drew
theorem ka_' : type_of% @blk_alloc := @blk_alloc
theorem pt_' : type_of% @below_set := @below_set
theorem kc_' : type_of% @blk_cell := @blk_cell
theorem kf_' : type_of% @blk_frozen := @blk_frozen
theorem sa_' {α : Type} (l : List α) (i : Nat) (a : α) : l.toArray.setIfInBounds i a = (l.set i a).toArray := List.setIfInBounds_toArray ..
theorem sz_' {α : Type} {x : α} {xs : List α} {a : α} : (x :: xs).set 0 a = a :: xs := List.set_cons_zero
theorem sc_' {α : Type} {x : α} {xs : List α} {i : Nat} {a : α} : (x :: xs).set (i + 1) a = x :: xs.set i a := List.set_cons_succ
theorem bs_' {α β : Type} {b : β} {x : Option α} {f : α → Option β} (h : x.bind f = some b) : ∃ a, x = some a ∧ f a = some b := Option.bind_eq_some_iff.mp h
theorem od_' : type_of% @of_decide_eq_true := @of_decide_eq_true
theorem ps_' : type_of% @below_size := @below_size
theorem pp_' : type_of% @below_step := @below_step
theorem rn_' : type_of% @Kd.R_drewN := @Kd.R_drewN
theorem rd1_' : type_of% @Kd.R_drew := @Kd.R_drew
theorem ra_' : type_of% @Kd.R_alloc := @Kd.R_alloc
theorem xb_' : type_of% @Kd.R_below := @Kd.R_below
theorem xt_' : type_of% @List.length_take := @List.length_take
theorem xd_' : type_of% @List.length_drop := @List.length_drop
theorem xm_' : type_of% @List.map_toArray := @List.map_toArray
theorem xc_' : type_of% @List.map_cons := @List.map_cons
theorem xn_' : type_of% @List.map_nil := @List.map_nil
theorem xr_' : type_of% @Kd.R_reads' := @Kd.R_reads'
theorem xe_' : type_of% @Kd.C_drewN := @Kd.C_drewN
theorem xf_' : type_of% @Kd.C_drew := @Kd.C_drew
theorem xg_' : type_of% @Kd.C_alloc := @Kd.C_alloc
theorem xi_' : type_of% @Kd.R_mono := @Kd.R_mono
theorem xj_' : type_of% @gate_callee := @gate_callee
end Go.Proofs.Ytiophiipmgpaeaa.F

namespace Go.Proofs.Ytiophiipmgpaeaa.F
open Go.RowKit Go.Proofs.YtiophiipmgpaeaaW.PrintWords Go.Proofs.YtiophiipmgpaeaaW.PrintLast Go.Proofs.YtiophiipmgpaeaaW.PrintMore
class Mv (W W' : World) : Prop where
  out : Below W.heap.size W W'
instance (W : World) : Mv W W := ⟨Below.refl _ W⟩
instance (W W1 : World) (o : Obj) [h : Mv W W1] : Mv W (W1.alloc o) := ⟨below_alloc h.out o⟩
instance (W W1 : World) (n : Nat) [h : Mv W W1] : Mv W (W1.drewN n) := ⟨pw_below_drewN h.out n⟩
instance (W W1 : World) [h : Mv W W1] : Mv W W1.drew := ⟨below_drew1 h.out⟩
theorem bm {w W W' : World} (h : Aside0 (Below w.heap.size w W)) [m : Mv W W'] : Below w.heap.size w W' := below_step h.out m.out
theorem km {W W' : World} {g : Nat} {o : Obj} (h : Aside0 (W.heap[g]? = some o)) [m : Mv W W'] : W'.heap[g]? = some o := blk_below h.out m.out
theorem rm {α : Type} {d : Kd α} {e : Nat} {W W' : World} {base : Nat} {ok : Nat → Prop} {v : Value} {xs : List α} (h : Aside0 (Kd.R d e W base ok v xs)) [m : Mv W W'] : Kd.R d e W' base ok v xs := Kd.R_below h.out m.out
end Go.Proofs.Ytiophiipmgpaeaa.F

namespace Go.Proofs.Ytiophiipmgpaeaa.F
open Go.RowKit Go.Proofs.YtiophiipmgpaeaaW.PrintWords Go.Proofs.YtiophiipmgpaeaaW.PrintLast Go.Proofs.YtiophiipmgpaeaaW.PrintMore
attribute [local go_sem] max2_int min2_int max_two min_two max_three min_three max_four min_four
set_option linter.unusedVariables false
set_option linter.unusedSimpArgs false
def laws_eqPlayed.f (a0_0 : Int) (a0_1 : Int) (a1_0 : Int) (a1_1 : Int) : Option (Bool) := if a0_0 = a1_0 then (if a0_1 = a1_1 then (some true) else (some false)) else (some false)
set_option maxHeartbeats 8000000 in
set_option maxRecDepth 100000 in
theorem laws_eqPlayed.calls (a0_0 : Int) (a0_1 : Int) (a1_0 : Int) (a1_1 : Int) (r : Bool) (w : World) (h : laws_eqPlayed.f a0_0 a0_1 a1_0 a1_1 = some r) :
  Calls Try.prog 87 #[.agg #[.int .i64 a0_0, .int .i64 a0_1], .agg #[.int .i64 a1_0, .int .i64 a1_1]] w fun e w' => e = .returned (.bool r) ∧ Below w.heap.size w w' := by
 have hu109 := Try.underlying109
 have HB := sk_' (Below.refl w.heap.size w)
 have H : (if a0_0 = a1_0 then (if a0_1 = a1_1 then (some true) else (some false)) else (some false)) = some r := h
 clear h
 by_cases c3 : a0_0 = a1_0
 ·
  rw [if_pos c3] at H
  have c3b0 : (a0_0 == a1_0) = true := beq_iff_eq.mpr c3
  have c3b1 : (a0_0 != a1_0) = false := bne_eq_false_iff_eq.mpr c3
  clear c3
  by_cases c4 : a0_1 = a1_1
  ·
   rw [if_pos c4] at H
   have c4b0 : (a0_1 == a1_1) = true := beq_iff_eq.mpr c4
   have c4b1 : (a0_1 != a1_1) = false := bne_eq_false_iff_eq.mpr c4
   clear c4
   obtain rfl := Option.some.inj H
   go_enter Try.func87, Try.ntmps87
   go_wp2_with (first | ((with_reducible refine gate_dst (N := 2) rfl ?_); refine box_event ?hg (N := 2) ?hd (cs := #[.int .i64 a0_0, .int .i64 a0_1]) (t := 109) ?hr ?_; (case hd => rfl); (case hg => rfl); (case hr => first | (go_simp; done) | (go_simp; rfl)); intro gb230 hg w5 hbox hb; have n0_ := sk_' (pp_' (bm HB) hb); have n1_ := sk_' (hbox); have n2_ := sk_' ((by rw [hg]; exact (ps_' (bm HB)) : w.heap.size ≤ gb230)); have n3_ := sk_' ((by rw [hg]; exact (ps_' (bm HB)) : w.heap.size ≤ gb230)); clear HB; have HB := n0_; have BK230 := n1_; have GW230 := n2_; have GE230 := n3_; clear n0_ n1_ n2_ n3_; clear hb hbox hg) | ((with_reducible refine gate_dst (N := 3) rfl ?_); refine box_event ?hg (N := 3) ?hd (cs := #[.int .i64 a1_0, .int .i64 a1_1]) (t := 109) ?hr ?_; (case hd => rfl); (case hg => rfl); (case hr => first | (go_simp; done) | (go_simp; rfl)); intro gb231 hg w6 hbox hb; have n0_ := sk_' (blk_below (g := gb230) (o := .cells #[.int .i64 a0_0, .int .i64 a0_1] 109 (0, 0)) (km BK230) hb); have n1_ := sk_' (pp_' (bm HB) hb); have n2_ := sk_' (hbox); have n3_ := sk_' ((by rw [hg]; exact (ps_' (bm HB)) : w.heap.size ≤ gb231)); have n4_ := sk_' ((by rw [hg]; exact (ps_' (bm HB)) : w.heap.size ≤ gb231)); have n5_ := sk_' ((by rw [hg]; exact Nat.ne_of_lt (blk_lt (g := gb230) (o := .cells #[.int .i64 a0_0, .int .i64 a0_1] 109 (0, 0)) (km BK230)) : gb230 ≠ gb231)); have n6_ := sk_' ((by rw [hg]; exact Nat.ne_of_gt (blk_lt (g := gb230) (o := .cells #[.int .i64 a0_0, .int .i64 a0_1] 109 (0, 0)) (km BK230)) : gb231 ≠ gb230)); clear BK230; clear HB; have BK230 := n0_; have HB := n1_; have BK231 := n2_; have GW231 := n3_; have GE231 := n4_; have NB230_231 := n5_; have NB231_230 := n6_; clear n0_ n1_ n2_ n3_ n4_ n5_ n6_; clear hb hbox hg; have hnb7 := NB230_231.out; have hnc7 := NB231_230.out; have hcz8_0 : w6.cell? ⟨gb230, 0, none⟩ = some (.int .i64 a0_0) := (kc_' BK230.out 0).trans rfl; have hcz8_1 : w6.cell? ⟨gb230, 1, none⟩ = some (.int .i64 a0_1) := (kc_' BK230.out 1).trans rfl; have hfz8_0 := kf_' BK230.out 0; have hfz8_1 := kf_' BK230.out 1; have hcz9_0 : w6.cell? ⟨gb231, 0, none⟩ = some (.int .i64 a1_0) := (kc_' BK231.out 0).trans rfl; have hcz9_1 : w6.cell? ⟨gb231, 1, none⟩ = some (.int .i64 a1_1) := (kc_' BK231.out 1).trans rfl; have hfz9_0 := kf_' BK231.out 0; have hfz9_1 := kf_' BK231.out 1))
   go_ret
   exact ⟨rfl, bm HB⟩
  rw [if_neg c4] at H
  have c4b0 : (a0_1 == a1_1) = false := beq_eq_false_iff_ne.mpr c4
  have c4b1 : (a0_1 != a1_1) = true := bne_iff_ne.mpr c4
  obtain rfl := Option.some.inj H
  go_enter Try.func87, Try.ntmps87
  go_wp2_with (first | ((with_reducible refine gate_dst (N := 2) rfl ?_); refine box_event ?hg (N := 2) ?hd (cs := #[.int .i64 a0_0, .int .i64 a0_1]) (t := 109) ?hr ?_; (case hd => rfl); (case hg => rfl); (case hr => first | (go_simp; done) | (go_simp; rfl)); intro gb230 hg w10 hbox hb; have n0_ := sk_' (pp_' (bm HB) hb); have n1_ := sk_' (hbox); have n2_ := sk_' ((by rw [hg]; exact (ps_' (bm HB)) : w.heap.size ≤ gb230)); have n3_ := sk_' ((by rw [hg]; exact (ps_' (bm HB)) : w.heap.size ≤ gb230)); clear HB; have HB := n0_; have BK230 := n1_; have GW230 := n2_; have GE230 := n3_; clear n0_ n1_ n2_ n3_; clear hb hbox hg) | ((with_reducible refine gate_dst (N := 3) rfl ?_); refine box_event ?hg (N := 3) ?hd (cs := #[.int .i64 a1_0, .int .i64 a1_1]) (t := 109) ?hr ?_; (case hd => rfl); (case hg => rfl); (case hr => first | (go_simp; done) | (go_simp; rfl)); intro gb231 hg w11 hbox hb; have n0_ := sk_' (blk_below (g := gb230) (o := .cells #[.int .i64 a0_0, .int .i64 a0_1] 109 (0, 0)) (km BK230) hb); have n1_ := sk_' (pp_' (bm HB) hb); have n2_ := sk_' (hbox); have n3_ := sk_' ((by rw [hg]; exact (ps_' (bm HB)) : w.heap.size ≤ gb231)); have n4_ := sk_' ((by rw [hg]; exact (ps_' (bm HB)) : w.heap.size ≤ gb231)); have n5_ := sk_' ((by rw [hg]; exact Nat.ne_of_lt (blk_lt (g := gb230) (o := .cells #[.int .i64 a0_0, .int .i64 a0_1] 109 (0, 0)) (km BK230)) : gb230 ≠ gb231)); have n6_ := sk_' ((by rw [hg]; exact Nat.ne_of_gt (blk_lt (g := gb230) (o := .cells #[.int .i64 a0_0, .int .i64 a0_1] 109 (0, 0)) (km BK230)) : gb231 ≠ gb230)); clear BK230; clear HB; have BK230 := n0_; have HB := n1_; have BK231 := n2_; have GW231 := n3_; have GE231 := n4_; have NB230_231 := n5_; have NB231_230 := n6_; clear n0_ n1_ n2_ n3_ n4_ n5_ n6_; clear hb hbox hg; have hnb12 := NB230_231.out; have hnc12 := NB231_230.out; have hcz13_0 : w11.cell? ⟨gb230, 0, none⟩ = some (.int .i64 a0_0) := (kc_' BK230.out 0).trans rfl; have hcz13_1 : w11.cell? ⟨gb230, 1, none⟩ = some (.int .i64 a0_1) := (kc_' BK230.out 1).trans rfl; have hfz13_0 := kf_' BK230.out 0; have hfz13_1 := kf_' BK230.out 1; have hcz14_0 : w11.cell? ⟨gb231, 0, none⟩ = some (.int .i64 a1_0) := (kc_' BK231.out 0).trans rfl; have hcz14_1 : w11.cell? ⟨gb231, 1, none⟩ = some (.int .i64 a1_1) := (kc_' BK231.out 1).trans rfl; have hfz14_0 := kf_' BK231.out 0; have hfz14_1 := kf_' BK231.out 1))
  go_ret
  exact ⟨rfl, bm HB⟩
 rw [if_neg c3] at H
 have c3b0 : (a0_0 == a1_0) = false := beq_eq_false_iff_ne.mpr c3
 have c3b1 : (a0_0 != a1_0) = true := bne_iff_ne.mpr c3
 obtain rfl := Option.some.inj H
 go_enter Try.func87, Try.ntmps87
 go_wp2_with (first | ((with_reducible refine gate_dst (N := 2) rfl ?_); refine box_event ?hg (N := 2) ?hd (cs := #[.int .i64 a0_0, .int .i64 a0_1]) (t := 109) ?hr ?_; (case hd => rfl); (case hg => rfl); (case hr => first | (go_simp; done) | (go_simp; rfl)); intro gb230 hg w15 hbox hb; have n0_ := sk_' (pp_' (bm HB) hb); have n1_ := sk_' (hbox); have n2_ := sk_' ((by rw [hg]; exact (ps_' (bm HB)) : w.heap.size ≤ gb230)); have n3_ := sk_' ((by rw [hg]; exact (ps_' (bm HB)) : w.heap.size ≤ gb230)); clear HB; have HB := n0_; have BK230 := n1_; have GW230 := n2_; have GE230 := n3_; clear n0_ n1_ n2_ n3_; clear hb hbox hg) | ((with_reducible refine gate_dst (N := 3) rfl ?_); refine box_event ?hg (N := 3) ?hd (cs := #[.int .i64 a1_0, .int .i64 a1_1]) (t := 109) ?hr ?_; (case hd => rfl); (case hg => rfl); (case hr => first | (go_simp; done) | (go_simp; rfl)); intro gb231 hg w16 hbox hb; have n0_ := sk_' (blk_below (g := gb230) (o := .cells #[.int .i64 a0_0, .int .i64 a0_1] 109 (0, 0)) (km BK230) hb); have n1_ := sk_' (pp_' (bm HB) hb); have n2_ := sk_' (hbox); have n3_ := sk_' ((by rw [hg]; exact (ps_' (bm HB)) : w.heap.size ≤ gb231)); have n4_ := sk_' ((by rw [hg]; exact (ps_' (bm HB)) : w.heap.size ≤ gb231)); have n5_ := sk_' ((by rw [hg]; exact Nat.ne_of_lt (blk_lt (g := gb230) (o := .cells #[.int .i64 a0_0, .int .i64 a0_1] 109 (0, 0)) (km BK230)) : gb230 ≠ gb231)); have n6_ := sk_' ((by rw [hg]; exact Nat.ne_of_gt (blk_lt (g := gb230) (o := .cells #[.int .i64 a0_0, .int .i64 a0_1] 109 (0, 0)) (km BK230)) : gb231 ≠ gb230)); clear BK230; clear HB; have BK230 := n0_; have HB := n1_; have BK231 := n2_; have GW231 := n3_; have GE231 := n4_; have NB230_231 := n5_; have NB231_230 := n6_; clear n0_ n1_ n2_ n3_ n4_ n5_ n6_; clear hb hbox hg; have hnb17 := NB230_231.out; have hnc17 := NB231_230.out; have hcz18_0 : w16.cell? ⟨gb230, 0, none⟩ = some (.int .i64 a0_0) := (kc_' BK230.out 0).trans rfl; have hcz18_1 : w16.cell? ⟨gb230, 1, none⟩ = some (.int .i64 a0_1) := (kc_' BK230.out 1).trans rfl; have hfz18_0 := kf_' BK230.out 0; have hfz18_1 := kf_' BK230.out 1; have hcz19_0 : w16.cell? ⟨gb231, 0, none⟩ = some (.int .i64 a1_0) := (kc_' BK231.out 0).trans rfl; have hcz19_1 : w16.cell? ⟨gb231, 1, none⟩ = some (.int .i64 a1_1) := (kc_' BK231.out 1).trans rfl; have hfz19_0 := kf_' BK231.out 0; have hfz19_1 := kf_' BK231.out 1))
 go_ret
 exact ⟨rfl, bm HB⟩
end Go.Proofs.Ytiophiipmgpaeaa.F

namespace Go.Proofs.Ytiophiipmgpaeaa.F
open Go.RowKit Go.Proofs.YtiophiipmgpaeaaW.PrintWords Go.Proofs.YtiophiipmgpaeaaW.PrintLast Go.Proofs.YtiophiipmgpaeaaW.PrintMore
attribute [local go_sem] max2_int min2_int max_two min_two max_three min_three max_four min_four
set_option linter.unusedVariables false
set_option linter.unusedSimpArgs false
def laws_eqPlayedS.l0 : Nat → List (S109) → List (S109) → Int → Option (Bool)
 | 0, _, _, _ => none
 | k + 1, x0, x1, x5 => if x5 < (x0.length : Int) then (if 0 ≤ x5 then (if x5 < (x1.length : Int) then ((laws_eqPlayed.f ((rd_T109 x0 x5).f0) ((rd_T109 x0 x5).f1) ((rd_T109 x1 x5).f0) ((rd_T109 x1 x5).f1)).bind fun t234 => (if t234 = true then (laws_eqPlayedS.l0 k x0 x1 (wrap64 (x5 + 1))) else (some false))) else (none)) else (none)) else (some true)
def laws_eqPlayedS.f (k : Nat) (l0 : List (S109)) (l1 : List (S109)) : Option (Bool) := if (l0.length : Int) = (l1.length : Int) then (laws_eqPlayedS.l0 k l0 l1 0) else (some false)
def laws_eqPlayedS.T6 : Bool × List (List Nat × List Nat) := (true, [([], []), ([], []), ([0, 1], [0, 1]), ([2], [2]), ([], []), ([], []), ([4, 5], [4, 5]), ([6], [6]), ([3, 7], [3, 7]), ([8], [8])])
def laws_eqPlayedS.B6 : List Nat := [0, 0, 3, 7, 0, 0, 48, 112, 255, 511]
theorem laws_eqPlayedS.tab6 : rtab .any (opsOf Try.f28 6) = laws_eqPlayedS.T6 := by kernel_rfl
theorem laws_eqPlayedS.bits6 : waitsOk laws_eqPlayedS.T6.2 laws_eqPlayedS.B6 = true := by kernel_rfl
set_option maxHeartbeats 8000000 in
set_option maxRecDepth 100000 in
theorem laws_eqPlayedS.calls (k : Nat) (A0 : Option Addr) (c0 : Nat) (l0 : List (S109)) (A1 : Option Addr) (c1 : Nat) (l1 : List (S109)) (r : Bool) (w : World) (hr0 : Kd.C k109 w A0 l0.length l0) (hc0 : l0.length ≤ c0) (hr1 : Kd.C k109 w A1 l1.length l1) (hc1 : l1.length ≤ c1) (h : laws_eqPlayedS.f k l0 l1 = some r) :
  Calls Try.prog 28 #[.slice A0 l0.length c0, .slice A1 l1.length c1] w fun e w' => e = .returned (.bool r) ∧ Below w.heap.size w w' := by
 have hu109 := Try.underlying109
 have HR0 := sk_' hr0
 have HC0 := sk_' hc0
 clear hr0 hc0
 have HR1 := sk_' hr1
 have HC1 := sk_' hc1
 clear hr1 hc1
 have HB := sk_' (Below.refl w.heap.size w)
 have H : (if (l0.length : Int) = (l1.length : Int) then (laws_eqPlayedS.l0 k l0 l1 0) else (some false)) = some r := h
 clear h
 by_cases c3 : (l0.length : Int) = (l1.length : Int)
 ·
  rw [if_pos c3] at H
  have c3b0 : ((l0.length : Int) == (l1.length : Int)) = true := beq_iff_eq.mpr c3
  have c3b1 : ((l0.length : Int) != (l1.length : Int)) = false := bne_eq_false_iff_eq.mpr c3
  have c3b2 : (l0.length == l1.length) = true := by first | simpa using c3 | (simp at c3 ⊢; omega)
  clear c3
  have H' := sk_' H
  clear H
  go_enter Try.func28, Try.ntmps28
  go_wp2
  go_loopg [5] k (fun kq v5 w' => ∃ (x5_1 : Int), v5 = .int .i64 x5_1 ∧ Aside0 (laws_eqPlayedS.l0 kq l0 l1 x5_1 = some r) ∧ Aside0 (kq ≤ k) ∧ Aside0 (Below w.heap.size w w'))
  case atStart => exact ⟨(0), rfl, H', ⟨Nat.le_refl _⟩, ⟨bm HB⟩⟩
  case round =>
   clear H'
   try clear c1
   try clear c2
   try clear p2
   try clear c3
   try clear c3b0
   try clear c3b1
   try clear c3b2
   obtain ⟨x5_1, rfl, HA, HK1, HB⟩ := hrel
   cases gk with
   | zero => exact absurd HA.out (by simp [laws_eqPlayedS.l0])
   | succ k1 =>
    have H := HA.out
    clear HA
    simp only [laws_eqPlayedS.l0] at H
    by_cases c4 : x5_1 < (l0.length : Int)
    ·
     rw [if_pos c4] at H
     have c4b0 : decide (x5_1 < (l0.length : Int)) = true := decide_eq_true c4
     clear c4
     by_cases c5 : 0 ≤ x5_1
     ·
      rw [if_pos c5] at H
      have c5b0 : decide (0 ≤ x5_1) = true := decide_eq_true c5
      clear c5
      by_cases c6 : x5_1 < (l1.length : Int)
      ·
       rw [if_pos c6] at H
       have c6b0 : decide (x5_1 < (l1.length : Int)) = true := decide_eq_true c6
       clear c6
       replace H := bs_' H
       obtain ⟨t234, A70, H⟩ := H
       try dsimp only at H
       have A7 := sk_' A70
       clear A70
       by_cases c8 : t234 = true
       ·
        subst c8
        rw [if_pos rfl] at H
        have H' := sk_' H
        clear H
        try go_wp2
        have n0_ := sk_' (pd_' HB.out)
        clear HB
        have HB := n0_
        clear n0_
        have p232 : 0 ≤ (x5_1 : Int) := od_' (by first | (with_reducible assumption) | assumption)
        have q232 : x5_1 < (l0.length : Int) := od_' (by first | (with_reducible assumption) | assumption)
        obtain ⟨ad232, e232, hx232_0, hx232_1⟩ := at_T109 HR0.out x5_1 p232 q232
        have hw232_1 := hx232_1
        have hw232_0 := hx232_0
        cases e232
        replace hx232_0 := (HB.out.cell (bq_' w _ hx232_0)).trans hx232_0
        replace hx232_1 := (HB.out.cell (bq_' w _ hx232_1)).trans hx232_1
        replace p232 := eq_true p232
        replace q232 := eq_true q232
        have p233 : 0 ≤ (x5_1 : Int) := od_' (by first | (with_reducible assumption) | assumption)
        have q233 : x5_1 < (l1.length : Int) := od_' (by first | (with_reducible assumption) | assumption)
        obtain ⟨ad233, e233, hx233_0, hx233_1⟩ := at_T109 HR1.out x5_1 p233 q233
        have hw233_1 := hx233_1
        have hw233_0 := hx233_0
        cases e233
        replace hx233_0 := (HB.out.cell (bq_' w _ hx233_0)).trans hx233_0
        replace hx233_1 := (HB.out.cell (bq_' w _ hx233_1)).trans hx233_1
        replace p233 := eq_true p233
        replace q233 := eq_true q233
        refine BelowW.region (by kernel_rfl) (by kernel_rfl) ?_
        have hq0_ : wr.drew.cell? (ad232.add ((x5_1).toNat * 2)) = some (.int .i64 ((rd_T109 l0 x5_1).f0)) := ((HB.out.cell (bq_' w _ hw232_0)).trans hw232_0)
        have hq1_ : wr.drew.cell? ⟨(ad232.add ((x5_1).toNat * 2)).block, (ad232.add ((x5_1).toNat * 2)).off + 1, none⟩ = some (.int .i64 ((rd_T109 l0 x5_1).f1)) := ((HB.out.cell (bq_' w _ hw232_1)).trans hw232_1)
        have hq2_ : wr.drew.cell? (ad233.add ((x5_1).toNat * 2)) = some (.int .i64 ((rd_T109 l1 x5_1).f0)) := ((HB.out.cell (bq_' w _ hw233_0)).trans hw233_0)
        have hq3_ : wr.drew.cell? ⟨(ad233.add ((x5_1).toNat * 2)).block, (ad233.add ((x5_1).toNat * 2)).off + 1, none⟩ = some (.int .i64 ((rd_T109 l1 x5_1).f1)) := ((HB.out.cell (bq_' w _ hw233_1)).trans hw233_1)
        generalize wr.drew = w9 at HB hx232_0 hx232_1 hx233_0 hx233_1 hq0_ hq1_ hq2_ hq3_ ⊢
        replace hq0_ := BelowW.at hq0_
        replace hq1_ := BelowW.at hq1_
        replace hq2_ := BelowW.at hq2_
        replace hq3_ := BelowW.at hq3_
        change wpQuiet _ _ _ _ (List.cons _ _) _
        repeat (go_big_quiet_step (first | (go_at_call 87; (with_reducible refine (laws_eqPlayed.calls ((rd_T109 l0 x5_1).f0) ((rd_T109 l0 x5_1).f1) ((rd_T109 l1 x5_1).f0) ((rd_T109 l1 x5_1).f1) true _ A7.out).mono ?_); exact fun _ _ h_ => ⟨h_.1, BelowW.step _ h_.2⟩)))
        refine wpQuiet_nil ?_
        intro w10 hb
        try simp only [i64_w, i32_w]
        clear hq0_ hq1_ hq2_ hq3_
        have n0_ := sk_' (pp_' (bm HB) hb)
        clear HB
        have HB := n0_
        clear n0_
        (try clear hb)
        (try clear hb2)
        (try clear hk)
        (try clear hi)
        try go_wp2
        go_roundg k1
        case measure => have := HK1.out; omega
        case rel => exact ⟨(wrap64 (x5_1 + 1)), rfl, H', ⟨by have := HK1.out; omega⟩, ⟨bm HB⟩⟩
       replace c8 := Bool.eq_false_iff.mpr c8
       subst c8
       rw [if_neg (show ¬ (false = true) by decide)] at H
       obtain rfl := Option.some.inj H
       try go_wp2
       have n0_ := sk_' (pd_' HB.out)
       clear HB
       have HB := n0_
       clear n0_
       have p232 : 0 ≤ (x5_1 : Int) := od_' (by first | (with_reducible assumption) | assumption)
       have q232 : x5_1 < (l0.length : Int) := od_' (by first | (with_reducible assumption) | assumption)
       obtain ⟨ad232, e232, hx232_0, hx232_1⟩ := at_T109 HR0.out x5_1 p232 q232
       have hw232_1 := hx232_1
       have hw232_0 := hx232_0
       cases e232
       replace hx232_0 := (HB.out.cell (bq_' w _ hx232_0)).trans hx232_0
       replace hx232_1 := (HB.out.cell (bq_' w _ hx232_1)).trans hx232_1
       replace p232 := eq_true p232
       replace q232 := eq_true q232
       have p233 : 0 ≤ (x5_1 : Int) := od_' (by first | (with_reducible assumption) | assumption)
       have q233 : x5_1 < (l1.length : Int) := od_' (by first | (with_reducible assumption) | assumption)
       obtain ⟨ad233, e233, hx233_0, hx233_1⟩ := at_T109 HR1.out x5_1 p233 q233
       have hw233_1 := hx233_1
       have hw233_0 := hx233_0
       cases e233
       replace hx233_0 := (HB.out.cell (bq_' w _ hx233_0)).trans hx233_0
       replace hx233_1 := (HB.out.cell (bq_' w _ hx233_1)).trans hx233_1
       replace p233 := eq_true p233
       replace q233 := eq_true q233
       refine BelowW.region (by kernel_rfl) (by kernel_rfl) ?_
       have hq0_ : wr.drew.cell? (ad232.add ((x5_1).toNat * 2)) = some (.int .i64 ((rd_T109 l0 x5_1).f0)) := ((HB.out.cell (bq_' w _ hw232_0)).trans hw232_0)
       have hq1_ : wr.drew.cell? ⟨(ad232.add ((x5_1).toNat * 2)).block, (ad232.add ((x5_1).toNat * 2)).off + 1, none⟩ = some (.int .i64 ((rd_T109 l0 x5_1).f1)) := ((HB.out.cell (bq_' w _ hw232_1)).trans hw232_1)
       have hq2_ : wr.drew.cell? (ad233.add ((x5_1).toNat * 2)) = some (.int .i64 ((rd_T109 l1 x5_1).f0)) := ((HB.out.cell (bq_' w _ hw233_0)).trans hw233_0)
       have hq3_ : wr.drew.cell? ⟨(ad233.add ((x5_1).toNat * 2)).block, (ad233.add ((x5_1).toNat * 2)).off + 1, none⟩ = some (.int .i64 ((rd_T109 l1 x5_1).f1)) := ((HB.out.cell (bq_' w _ hw233_1)).trans hw233_1)
       generalize wr.drew = w11 at HB hx232_0 hx232_1 hx233_0 hx233_1 hq0_ hq1_ hq2_ hq3_ ⊢
       replace hq0_ := BelowW.at hq0_
       replace hq1_ := BelowW.at hq1_
       replace hq2_ := BelowW.at hq2_
       replace hq3_ := BelowW.at hq3_
       change wpQuiet _ _ _ _ (List.cons _ _) _
       repeat (go_big_quiet_step (first | (go_at_call 87; (with_reducible refine (laws_eqPlayed.calls ((rd_T109 l0 x5_1).f0) ((rd_T109 l0 x5_1).f1) ((rd_T109 l1 x5_1).f0) ((rd_T109 l1 x5_1).f1) false _ A7.out).mono ?_); exact fun _ _ h_ => ⟨h_.1, BelowW.step _ h_.2⟩)))
       refine wpQuiet_nil ?_
       intro w12 hb
       try simp only [i64_w, i32_w]
       clear hq0_ hq1_ hq2_ hq3_
       have n0_ := sk_' (pp_' (bm HB) hb)
       clear HB
       have HB := n0_
       clear n0_
       (try clear hb)
       (try clear hb2)
       (try clear hk)
       (try clear hi)
       try go_wp2
       go_ret
       exact ⟨rfl, bm HB⟩
      rw [if_neg c6] at H
      exact absurd H (by simp)
     rw [if_neg c5] at H
     exact absurd H (by simp)
    rw [if_neg c4] at H
    have c4b0 : decide (x5_1 < (l0.length : Int)) = false := decide_eq_false c4
    clear c4
    obtain rfl := Option.some.inj H
    go_wp2
    go_ret
    exact ⟨rfl, bm HB⟩
 rw [if_neg c3] at H
 have c3b0 : ((l0.length : Int) == (l1.length : Int)) = false := beq_eq_false_iff_ne.mpr c3
 have c3b1 : ((l0.length : Int) != (l1.length : Int)) = true := bne_iff_ne.mpr c3
 have c3b2 : (l0.length == l1.length) = false := by first | simpa using c3 | (simp at c3 ⊢; omega)
 obtain rfl := Option.some.inj H
 go_enter Try.func28, Try.ntmps28
 go_wp2
 go_ret
 exact ⟨rfl, bm HB⟩
end Go.Proofs.Ytiophiipmgpaeaa.F

namespace Go.Proofs.Ytiophiipmgpaeaa.F
open Go.RowKit Go.Proofs.YtiophiipmgpaeaaW.PrintWords Go.Proofs.YtiophiipmgpaeaaW.PrintLast Go.Proofs.YtiophiipmgpaeaaW.PrintMore
attribute [local go_sem] max2_int min2_int max_two min_two max_three min_three max_four min_four
set_option linter.unusedVariables false
set_option linter.unusedSimpArgs false
def laws_markPlayedS.l0 : Nat → List (S109) → Int → Int → Option (Int × (List (S109)))
 | 0, _, _, _ => none
 | k + 1, x0, x1, x5 => if x5 < (x0.length : Int) then (if 0 ≤ x5 then ((some (x0.set (x5 : Int).toNat (⟨x1, (rd_T109 x0 x5).f1⟩ : S109) : List (S109))).bind fun y235 => (laws_markPlayedS.l0 k (y235.set (x5 : Int).toNat (⟨(rd_T109 y235 x5).f0, wrap64 (x1 + 1)⟩ : S109)) (wrap64 ((wrap64 (x1 + 1)) + 1)) (wrap64 (x5 + 1)))) else (none)) else (some (x1, x0))
def laws_markPlayedS.f (k : Nat) (l0 : List (S109)) (a1 : Int) : Option (Int × (List (S109))) := laws_markPlayedS.l0 k l0 a1 0
set_option maxHeartbeats 8000000 in
set_option maxRecDepth 100000 in
theorem laws_markPlayedS.calls (k : Nat) (P0_ : Nat → Prop) (u9000_ : Value) (l0 : List (S109)) (a1 : Int) (r1 : Int) (r2 : List (S109)) (w0 w : World) (hB : Below w0.heap.size w0 w) (ho0 : Kd.R k109 109 w w0.heap.size P0_ u9000_ l0) (h : laws_markPlayedS.f k l0 a1 = some (r1, r2)) :
  Calls Try.prog 29 #[u9000_, .int .i64 a1] w fun e w' => e = .returned (.int .i64 r1) ∧ Kd.R k109 109 w' w0.heap.size (fun k_ => (P0_ k_ ∨ w.heap.size ≤ k_)) u9000_ r2 ∧ Below w0.heap.size w0 w' ∧ Kept w w' (fun k_ => P0_ k_) := by
 have HO0 := sk_' (show Kd.R k109 109 w w0.heap.size (fun k_ => (P0_ k_ ∨ w.heap.size ≤ k_)) u9000_ l0 from xi_' ho0 (fun k_ hk => (.inl hk)))
 have HK := sk_' (Kept.refl w (fun k_ => P0_ k_))
 have HW0 := sk_' hB.size
 have HB := sk_' hB
 clear hB
 have H : (laws_markPlayedS.l0 k l0 a1 0) = some (r1, r2) := h
 clear h
 have H' := sk_' H
 clear H
 go_enter Try.func29, Try.ntmps29
 go_wp2
 go_loopg [1, 5] k (fun kq v1 v5 w' => ∃ (x0_1 : List (S109)) (x1_1 : Int) (x5_1 : Int), v1 = .int .i64 x1_1 ∧ v5 = .int .i64 x5_1 ∧ Aside0 (laws_markPlayedS.l0 kq x0_1 x1_1 x5_1 = some (r1, r2)) ∧ Aside0 (kq ≤ k) ∧ Aside0 (Kd.R k109 109 w' w0.heap.size (fun k_ => (P0_ k_ ∨ w.heap.size ≤ k_)) u9000_ x0_1) ∧ Aside0 (Kept w w' (fun k_ => P0_ k_)) ∧ Aside0 (Below w0.heap.size w0 w'))
 case atStart => exact ⟨(l0), (a1), (0), rfl, rfl, H', ⟨Nat.le_refl _⟩, ⟨rm HO0⟩, ⟨by repeat (first | (with_reducible first | exact HK.out | apply Kept.alloc | apply Kept.drewN | apply Kept.drew) | exact HK.out)⟩, ⟨bm HB⟩⟩
 case round =>
  clear H'
  try clear c2
  try clear p2
  obtain ⟨x0_1, x1_1, x5_1, rfl, rfl, HA, HK1, HO_0, HK, HB⟩ := hrel
  cases gk with
  | zero => exact absurd HA.out (by simp [laws_markPlayedS.l0])
  | succ k1 =>
   have H := HA.out
   clear HA
   simp only [laws_markPlayedS.l0] at H
   by_cases c3 : x5_1 < (x0_1.length : Int)
   ·
    rw [if_pos c3] at H
    have c3b0 : decide (x5_1 < (x0_1.length : Int)) = true := decide_eq_true c3
    clear c3
    by_cases c4 : 0 ≤ x5_1
    ·
     rw [if_pos c4] at H
     have c4b0 : decide (0 ≤ x5_1) = true := decide_eq_true c4
     clear c4
     obtain ⟨y235, hy235⟩ : ∃ y_ : List (S109), y_ = (x0_1.set (x5_1 : Int).toNat (⟨x1_1, (rd_T109 x0_1 x5_1).f1⟩ : S109)) := ⟨_, rfl⟩
     replace H : (laws_markPlayedS.l0 k1 (y235.set (x5_1 : Int).toNat (⟨(rd_T109 y235 x5_1).f0, wrap64 (x1_1 + 1)⟩ : S109)) (wrap64 ((wrap64 (x1_1 + 1)) + 1)) (wrap64 (x5_1 + 1))) = some (r1, r2) := by first | (rw [hy235]; with_reducible exact H) | (have H2_ := (Option.bind_some _ _).symm.trans H; rw [hy235]; with_reducible exact H2_) | (have H2_ := (Option.bind_some _ _).symm.trans H; with_reducible exact H2_) | with_reducible exact H | (rw [hy235]; exact H) | exact H
     have Ny235 := sk_' hy235
     clear hy235
     obtain ⟨y236, hy236⟩ : ∃ y_ : List (S109), y_ = (y235.set (x5_1 : Int).toNat (⟨(rd_T109 y235 x5_1).f0, wrap64 (x1_1 + 1)⟩ : S109)) := ⟨_, rfl⟩
     replace H : (laws_markPlayedS.l0 k1 y236 (wrap64 ((wrap64 (x1_1 + 1)) + 1)) (wrap64 (x5_1 + 1))) = some (r1, r2) := by first | (rw [hy236]; with_reducible exact H) | (have H2_ := (Option.bind_some _ _).symm.trans H; rw [hy236]; with_reducible exact H2_) | (have H2_ := (Option.bind_some _ _).symm.trans H; with_reducible exact H2_) | with_reducible exact H | (rw [hy236]; exact H) | exact H
     have Ny236 := sk_' hy236
     clear hy236
     have H' := sk_' H
     clear H
     obtain ⟨Ao7, co7, eo7⟩ := Kd.R_slice HO_0.out
     subst eo7
     have p5 : 0 ≤ (x5_1 : Int) := od_' (by first | (with_reducible assumption) | assumption)
     have q5 : (x5_1 : Int) < ((x0_1.length : Int) : Int) := od_' (by first | (with_reducible assumption) | assumption)
     obtain ⟨go5, co5, eo5, gb5, gl5, cl5, HG5⟩ := Kd.R_form HO_0.out (by omega)
     (first | cases eo5 | (injection eo5 with ea_ en_ ec_; (first | subst ea_ | (injection ea_ with ea_; subst ea_)); subst ec_; clear en_))
     have GB5 := sk_' gb5
     have GG5 := sk_' HG5
     clear gb5 gl5 HG5
     have HMgo5 := sk_' (show (P0_ go5 ∨ w.heap.size ≤ go5) from (HO_0.out.1 _ rfl))
     obtain ⟨ce5, hcl5, hM5, hcc5, hfr5⟩ := Kd.R_elem HO_0.out z109 (x5_1 : Int) p5 q5
     obtain rfl := k109_openM hM5
     have hx5_0 : wr.cell? ⟨go5, (x5_1 : Int).toNat * 2, none⟩ = some (.int .i64 ((rd_T109 x0_1 x5_1).f0)) := hcc5 0 _ rfl
     have hx5_1 : wr.cell? ⟨go5, (x5_1 : Int).toNat * 2 + 1, none⟩ = some (.int .i64 ((rd_T109 x0_1 x5_1).f1)) := hcc5 1 _ rfl
     have hf5_0 : wr.frozen? ⟨go5, (x5_1 : Int).toNat * 2, none⟩ = false := hfr5 0
     have hf5_1 : wr.frozen? ⟨go5, (x5_1 : Int).toNat * 2 + 1, none⟩ = false := hfr5 1
     clear hcl5 hcc5 hfr5 hM5
     replace p5 := eq_true p5
     replace q5 := eq_true q5
     have HX8 := sk_' (show Kd.R k109 109 wr w0.heap.size (fun k_ => (P0_ k_ ∨ w.heap.size ≤ k_)) (.slice (some ⟨go5, 0, none⟩) x0_1.length co7) x0_1 from (rm HO_0))
     obtain ⟨ce8, hcl8, hM8, hcc8, hfr8⟩ := Kd.R_elem HX8.out z109 (x5_1 : Int) (od_' (by first | (with_reducible assumption) | assumption)) (by have h_ : (x5_1 : Int) < ((x0_1.length : Int) : Int) := od_' (by first | (with_reducible assumption) | assumption); first | exact h_ | (have e_ := (xr_' HO_0.out).1; omega) | simpa using h_)
     obtain rfl := k109_openM hM8
     have HP8 := Kd.R_seg HX8.out (x5_1 : Int) (od_' (by first | (with_reducible assumption) | assumption)) (by have h_ : (x5_1 : Int) < ((x0_1.length : Int) : Int) := od_' (by first | (with_reducible assumption) | assumption); first | exact h_ | (have e_ := (xr_' HO_0.out).1; omega) | simpa using h_) (seg := [.int .i64 x1_1]) (j := 0) hcl8 hcc8 (show 1 ≤ 2 from by decide) (x' := (⟨x1_1, (rd_T109 x0_1 x5_1).f1⟩ : S109)) (k109_mkM _ _ _ (⟨x1_1, (rd_T109 x0_1 x5_1).f1⟩ : S109) ) (fun _ hk => hk)
     have hx8_0 := hcc8 0 _ rfl
     (try simp only [show (k109).sz = 2 from rfl, Nat.mul_one, Nat.add_zero] at hx8_0)
     have hf8_0 := hfr8 0
     (try simp only [show (k109).sz = 2 from rfl, Nat.mul_one, Nat.add_zero] at hf8_0)
     clear hcl8 hcc8 hfr8 hM8
     go_wp2_with (first | ((with_reducible refine gate_store (t := 3) (p := 16) rfl ?_); refine store_event (t := 3) (p := 16) (v := ?vo_w9) (w1 := (wr.setCell ⟨go5, (x5_1 : Int).toNat * 2, none⟩ (.int .i64 x1_1))) ?hg ?ho ?hn ?hr ?_; (case ho => rfl); (case hg => rfl); (case hn => rfl); (case hr => first | (go_simp; done) | (go_simp; rfl)); intro w9 hw; have hg : wr.grownBy w9 (some go5) := (by rw [hw]; exact HP8.2); have hp_ : Kd.R k109 109 w9 w0.heap.size (fun k_ => (P0_ k_ ∨ w.heap.size ≤ k_)) (.slice (some ⟨go5, 0, none⟩) x0_1.length co7) y235 := (by rw [hw, Ny235.out]; exact HP8.1); clear HP8; have n0_ := sk_' (hp_); have n1_ := sk_' ((by rw [hw]; exact pt_' (HB.out) GB5.out : Below w0.heap.size w0 w9)); have n2_ := sk_' (Kept.of_grown (S := (fun k_ => P0_ k_)) hg (by repeat (first | (with_reducible first | exact HK.out | apply Kept.alloc | apply Kept.drewN | apply Kept.drew) | exact HK.out)) (fun k_ e_ => (HO_0.out.1 k_ e_))); clear HO_0; clear HB; clear HK; have HO_0 := n0_; have HB := n1_; have HK := n2_; clear n0_ n1_ n2_; clear hg hw hp_; have p6 : 0 ≤ (x5_1 : Int) := od_' (by first | (with_reducible assumption) | assumption); have q6 : (x5_1 : Int) < ((x0_1.length : Int) : Int) := od_' (by first | (with_reducible assumption) | assumption); obtain ⟨ce6, hcl6, hM6, hcc6, hfr6⟩ := Kd.R_elem HO_0.out z109 (x5_1 : Int) p6 q6; obtain rfl := k109_openM hM6; have hx6_0 : w9.cell? ⟨go5, (x5_1 : Int).toNat * 2, none⟩ = some (.int .i64 ((rd_T109 y235 x5_1).f0)) := hcc6 0 _ rfl; have hx6_1 : w9.cell? ⟨go5, (x5_1 : Int).toNat * 2 + 1, none⟩ = some (.int .i64 ((rd_T109 y235 x5_1).f1)) := hcc6 1 _ rfl; have hf6_0 : w9.frozen? ⟨go5, (x5_1 : Int).toNat * 2, none⟩ = false := hfr6 0; have hf6_1 : w9.frozen? ⟨go5, (x5_1 : Int).toNat * 2 + 1, none⟩ = false := hfr6 1; clear hcl6 hcc6 hfr6 hM6; replace p6 := eq_true p6; replace q6 := eq_true q6; have HX10 := sk_' (show Kd.R k109 109 w9 w0.heap.size (fun k_ => (P0_ k_ ∨ w.heap.size ≤ k_)) (.slice (some ⟨go5, 0, none⟩) x0_1.length co7) y235 from (rm HO_0)); obtain ⟨ce10, hcl10, hM10, hcc10, hfr10⟩ := Kd.R_elem HX10.out z109 (x5_1 : Int) (od_' (by first | (with_reducible assumption) | assumption)) (by have h_ : (x5_1 : Int) < ((x0_1.length : Int) : Int) := od_' (by first | (with_reducible assumption) | assumption); first | exact h_ | (have e_ := (xr_' HO_0.out).1; omega) | simpa using h_); obtain rfl := k109_openM hM10; have HP10 := Kd.R_seg HX10.out (x5_1 : Int) (od_' (by first | (with_reducible assumption) | assumption)) (by have h_ : (x5_1 : Int) < ((x0_1.length : Int) : Int) := od_' (by first | (with_reducible assumption) | assumption); first | exact h_ | (have e_ := (xr_' HO_0.out).1; omega) | simpa using h_) (seg := [.int .i64 (wrap64 (x1_1 + 1))]) (j := 1) hcl10 hcc10 (show 2 ≤ 2 from by decide) (x' := (⟨(rd_T109 y235 x5_1).f0, wrap64 (x1_1 + 1)⟩ : S109)) (k109_mkM _ _ _ (⟨(rd_T109 y235 x5_1).f0, wrap64 (x1_1 + 1)⟩ : S109) ) (fun _ hk => hk); have hx10_1 := hcc10 1 _ rfl; (try simp only [show (k109).sz = 2 from rfl, Nat.mul_one, Nat.add_zero] at hx10_1); have hf10_1 := hfr10 1; (try simp only [show (k109).sz = 2 from rfl, Nat.mul_one, Nat.add_zero] at hf10_1); clear hcl10 hcc10 hfr10 hM10) | ((with_reducible refine gate_store (t := 3) (p := 23) rfl ?_); refine store_event (t := 3) (p := 23) (v := ?vo_w11) (w1 := (w9.setCell ⟨go5, (x5_1 : Int).toNat * 2 + 1, none⟩ (.int .i64 (wrap64 (x1_1 + 1))))) ?hg ?ho ?hn ?hr ?_; (case ho => rfl); (case hg => rfl); (case hn => rfl); (case hr => first | (go_simp; done) | (go_simp; rfl)); intro w11 hw; have hg : w9.grownBy w11 (some go5) := (by rw [hw]; exact HP10.2); have hp_ : Kd.R k109 109 w11 w0.heap.size (fun k_ => (P0_ k_ ∨ w.heap.size ≤ k_)) (.slice (some ⟨go5, 0, none⟩) x0_1.length co7) y236 := (by rw [hw, Ny236.out]; exact HP10.1); clear HP10; have n0_ := sk_' (hp_); have n1_ := sk_' ((by rw [hw]; exact pt_' (HB.out) GB5.out : Below w0.heap.size w0 w11)); have n2_ := sk_' (Kept.of_grown (S := (fun k_ => P0_ k_)) hg (by repeat (first | (with_reducible first | exact HK.out | apply Kept.alloc | apply Kept.drewN | apply Kept.drew) | exact HK.out)) (fun k_ e_ => (HO_0.out.1 k_ e_))); clear HO_0; clear HB; clear HK; have HO_0 := n0_; have HB := n1_; have HK := n2_; clear n0_ n1_ n2_; clear hg hw hp_))
     go_roundg k1
     case measure => have := HK1.out; omega
     case rel => exact ⟨(y236), (wrap64 ((wrap64 (x1_1 + 1)) + 1)), (wrap64 (x5_1 + 1)), rfl, rfl, H', ⟨by have := HK1.out; omega⟩, ⟨rm HO_0⟩, ⟨by repeat (first | (with_reducible first | exact HK.out | apply Kept.alloc | apply Kept.drewN | apply Kept.drew) | exact HK.out)⟩, ⟨bm HB⟩⟩
    rw [if_neg c4] at H
    exact absurd H (by simp)
   rw [if_neg c3] at H
   have c3b0 : decide (x5_1 < (x0_1.length : Int)) = false := decide_eq_false c3
   clear c3
   simp only [Option.some.injEq, Prod.mk.injEq] at H
   obtain ⟨rfl, rfl⟩ := H
   obtain ⟨Ao12, co12, eo12⟩ := Kd.R_slice HO_0.out
   subst eo12
   go_wp2
   go_ret
   exact ⟨rfl, rm HO_0, bm HB, by repeat (first | (with_reducible first | exact HK.out | apply Kept.alloc | apply Kept.drewN | apply Kept.drew) | exact HK.out)⟩
end Go.Proofs.Ytiophiipmgpaeaa.F

namespace Go.Proofs.Ytiophiipmgpaeaa.F
open Go.RowKit Go.Proofs.YtiophiipmgpaeaaW.PrintWords Go.Proofs.YtiophiipmgpaeaaW.PrintLast Go.Proofs.YtiophiipmgpaeaaW.PrintMore
attribute [local go_sem] max2_int min2_int max_two min_two max_three min_three max_four min_four
set_option linter.unusedVariables false
set_option linter.unusedSimpArgs false
def laws_heldPlayedS.l0 : Nat → List (S109) → Int → Int → Option (Int)
 | 0, _, _, _ => none
 | k + 1, x0, x1, x5 => if x5 < (x0.length : Int) then (if 0 ≤ x5 then (if ((rd_T109 x0 x5).f0) = x1 then (if ((rd_T109 x0 x5).f1) = (wrap64 (x1 + 1)) then (laws_heldPlayedS.l0 k x0 (wrap64 ((wrap64 (x1 + 1)) + 1)) (wrap64 (x5 + 1))) else (some (-1))) else (some (-1))) else (none)) else (some x1)
def laws_heldPlayedS.f (k : Nat) (l0 : List (S109)) (a1 : Int) : Option (Int) := laws_heldPlayedS.l0 k l0 a1 0
set_option maxHeartbeats 8000000 in
set_option maxRecDepth 100000 in
theorem laws_heldPlayedS.calls (k : Nat) (A0 : Option Addr) (c0 : Nat) (l0 : List (S109)) (a1 : Int) (r : Int) (w : World) (hr0 : Kd.C k109 w A0 l0.length l0) (hc0 : l0.length ≤ c0) (h : laws_heldPlayedS.f k l0 a1 = some r) :
  Calls Try.prog 36 #[.slice A0 l0.length c0, .int .i64 a1] w fun e w' => e = .returned (.int .i64 r) ∧ Drawn0 w w' := by
 have HR0 := sk_' hr0
 have HC0 := sk_' hc0
 clear hr0 hc0
 have H : (laws_heldPlayedS.l0 k l0 a1 0) = some r := h
 clear h
 have H' := sk_' H
 clear H
 go_enter Try.func36, Try.ntmps36
 go_wp2
 go_loopg [1, 5] k (fun kq v1 v5 w' => ∃ (x1_1 : Int) (x5_1 : Int), v1 = .int .i64 x1_1 ∧ v5 = .int .i64 x5_1 ∧ Aside0 (laws_heldPlayedS.l0 kq l0 x1_1 x5_1 = some r) ∧ Aside0 (kq ≤ k) ∧ Drawn0 w w')
 case atStart => exact ⟨(a1), (0), rfl, rfl, H', ⟨Nat.le_refl _⟩, by repeat (first | exact Drawn0.refl _ | apply Drawn0.step)⟩
 case round =>
  clear H'
  try clear p2
  obtain ⟨x1_1, x5_1, rfl, rfl, HA, HK1, ⟨m1, rfl⟩⟩ := hrel
  cases gk with
  | zero => exact absurd HA.out (by simp [laws_heldPlayedS.l0])
  | succ k1 =>
   have H := HA.out
   clear HA
   simp only [laws_heldPlayedS.l0] at H
   by_cases c3 : x5_1 < (l0.length : Int)
   ·
    rw [if_pos c3] at H
    have c3b0 : decide (x5_1 < (l0.length : Int)) = true := decide_eq_true c3
    clear c3
    by_cases c4 : 0 ≤ x5_1
    ·
     rw [if_pos c4] at H
     have c4b0 : decide (0 ≤ x5_1) = true := decide_eq_true c4
     clear c4
     by_cases c5 : ((rd_T109 l0 x5_1).f0) = x1_1
     ·
      rw [if_pos c5] at H
      have c5b0 : (((rd_T109 l0 x5_1).f0) == x1_1) = true := beq_iff_eq.mpr c5
      have c5b1 : (((rd_T109 l0 x5_1).f0) != x1_1) = false := bne_eq_false_iff_eq.mpr c5
      clear c5
      by_cases c6 : ((rd_T109 l0 x5_1).f1) = (wrap64 (x1_1 + 1))
      ·
       rw [if_pos c6] at H
       have c6b0 : (((rd_T109 l0 x5_1).f1) == (wrap64 (x1_1 + 1))) = true := beq_iff_eq.mpr c6
       have c6b1 : (((rd_T109 l0 x5_1).f1) != (wrap64 (x1_1 + 1))) = false := bne_eq_false_iff_eq.mpr c6
       clear c6
       have H' := sk_' H
       clear H
       have p352 : 0 ≤ (x5_1 : Int) := od_' (by first | (with_reducible assumption) | assumption)
       have q352 : x5_1 < (l0.length : Int) := od_' (by first | (with_reducible assumption) | assumption)
       obtain ⟨ad352, e352, hx352_0, hx352_1⟩ := at_T109 HR0.out x5_1 p352 q352
       cases e352
       replace p352 := eq_true p352
       replace q352 := eq_true q352
       have p353 : 0 ≤ (x5_1 : Int) := od_' (by first | (with_reducible assumption) | assumption)
       have q353 : x5_1 < (l0.length : Int) := od_' (by first | (with_reducible assumption) | assumption)
       obtain ⟨ad353, e353, hx353_0, hx353_1⟩ := at_T109 HR0.out x5_1 p353 q353
       obtain rfl : ad352 = ad353 := (by injection e353)
       replace p353 := eq_true p353
       replace q353 := eq_true q353
       go_wp2
       go_roundg k1
       case measure => have := HK1.out; omega
       case rel => exact ⟨(wrap64 ((wrap64 (x1_1 + 1)) + 1)), (wrap64 (x5_1 + 1)), rfl, rfl, H', ⟨by have := HK1.out; omega⟩, by repeat (first | exact Drawn0.refl _ | apply Drawn0.step)⟩
      rw [if_neg c6] at H
      have c6b0 : (((rd_T109 l0 x5_1).f1) == (wrap64 (x1_1 + 1))) = false := beq_eq_false_iff_ne.mpr c6
      have c6b1 : (((rd_T109 l0 x5_1).f1) != (wrap64 (x1_1 + 1))) = true := bne_iff_ne.mpr c6
      obtain rfl := Option.some.inj H
      have p352 : 0 ≤ (x5_1 : Int) := od_' (by first | (with_reducible assumption) | assumption)
      have q352 : x5_1 < (l0.length : Int) := od_' (by first | (with_reducible assumption) | assumption)
      obtain ⟨ad352, e352, hx352_0, hx352_1⟩ := at_T109 HR0.out x5_1 p352 q352
      cases e352
      replace p352 := eq_true p352
      replace q352 := eq_true q352
      have p353 : 0 ≤ (x5_1 : Int) := od_' (by first | (with_reducible assumption) | assumption)
      have q353 : x5_1 < (l0.length : Int) := od_' (by first | (with_reducible assumption) | assumption)
      obtain ⟨ad353, e353, hx353_0, hx353_1⟩ := at_T109 HR0.out x5_1 p353 q353
      obtain rfl : ad352 = ad353 := (by injection e353)
      replace p353 := eq_true p353
      replace q353 := eq_true q353
      go_wp2
      go_ret
      exact ⟨by first | rfl | (simp; done) | (simp [*]; done), by repeat (first | exact Drawn0.refl _ | apply Drawn0.step)⟩
     rw [if_neg c5] at H
     have c5b0 : (((rd_T109 l0 x5_1).f0) == x1_1) = false := beq_eq_false_iff_ne.mpr c5
     have c5b1 : (((rd_T109 l0 x5_1).f0) != x1_1) = true := bne_iff_ne.mpr c5
     obtain rfl := Option.some.inj H
     have p352 : 0 ≤ (x5_1 : Int) := od_' (by first | (with_reducible assumption) | assumption)
     have q352 : x5_1 < (l0.length : Int) := od_' (by first | (with_reducible assumption) | assumption)
     obtain ⟨ad352, e352, hx352_0, hx352_1⟩ := at_T109 HR0.out x5_1 p352 q352
     cases e352
     replace p352 := eq_true p352
     replace q352 := eq_true q352
     go_wp2
     go_ret
     exact ⟨by first | rfl | (simp; done) | (simp [*]; done), by repeat (first | exact Drawn0.refl _ | apply Drawn0.step)⟩
    rw [if_neg c4] at H
    exact absurd H (by simp)
   rw [if_neg c3] at H
   have c3b0 : decide (x5_1 < (l0.length : Int)) = false := decide_eq_false c3
   clear c3
   obtain rfl := Option.some.inj H
   go_wp2
   go_ret
   exact ⟨by first | rfl | (simp; done) | (simp [*]; done), by repeat (first | exact Drawn0.refl _ | apply Drawn0.step)⟩
end Go.Proofs.Ytiophiipmgpaeaa.F

namespace Go.Proofs.Ytiophiipmgpaeaa.F
open Go.RowKit Go.Proofs.YtiophiipmgpaeaaW.PrintWords Go.Proofs.YtiophiipmgpaeaaW.PrintLast Go.Proofs.YtiophiipmgpaeaaW.PrintMore
attribute [local go_sem] max2_int min2_int max_two min_two max_three min_three max_four min_four
set_option linter.unusedVariables false
set_option linter.unusedSimpArgs false
def laws_eqEvent.f (a0_0 : Int) (a0_1 : Int) (a0_2 : Int) (a0_3 : Int) (a1_0 : Int) (a1_1 : Int) (a1_2 : Int) (a1_3 : Int) : Option (Bool) := if a0_0 = a1_0 then (if a0_1 = a1_1 then (if a0_2 = a1_2 then (if a0_3 = a1_3 then (some true) else (some false)) else (some false)) else (some false)) else (some false)
set_option maxHeartbeats 8000000 in
set_option maxRecDepth 100000 in
theorem laws_eqEvent.calls (a0_0 : Int) (a0_1 : Int) (a0_2 : Int) (a0_3 : Int) (a1_0 : Int) (a1_1 : Int) (a1_2 : Int) (a1_3 : Int) (r : Bool) (w : World) (h : laws_eqEvent.f a0_0 a0_1 a0_2 a0_3 a1_0 a1_1 a1_2 a1_3 = some r) :
  Calls Try.prog 92 #[.agg #[.int .i64 a0_0, .int .i64 a0_1, .int .i64 a0_2, .int .i64 a0_3], .agg #[.int .i64 a1_0, .int .i64 a1_1, .int .i64 a1_2, .int .i64 a1_3]] w fun e w' => e = .returned (.bool r) ∧ Below w.heap.size w w' := by
 have hu118 := Try.underlying118
 have HB := sk_' (Below.refl w.heap.size w)
 have H : (if a0_0 = a1_0 then (if a0_1 = a1_1 then (if a0_2 = a1_2 then (if a0_3 = a1_3 then (some true) else (some false)) else (some false)) else (some false)) else (some false)) = some r := h
 clear h
 by_cases c3 : a0_0 = a1_0
 ·
  rw [if_pos c3] at H
  have c3b0 : (a0_0 == a1_0) = true := beq_iff_eq.mpr c3
  have c3b1 : (a0_0 != a1_0) = false := bne_eq_false_iff_eq.mpr c3
  clear c3
  by_cases c4 : a0_1 = a1_1
  ·
   rw [if_pos c4] at H
   have c4b0 : (a0_1 == a1_1) = true := beq_iff_eq.mpr c4
   have c4b1 : (a0_1 != a1_1) = false := bne_eq_false_iff_eq.mpr c4
   clear c4
   by_cases c5 : a0_2 = a1_2
   ·
    rw [if_pos c5] at H
    have c5b0 : (a0_2 == a1_2) = true := beq_iff_eq.mpr c5
    have c5b1 : (a0_2 != a1_2) = false := bne_eq_false_iff_eq.mpr c5
    clear c5
    by_cases c6 : a0_3 = a1_3
    ·
     rw [if_pos c6] at H
     have c6b0 : (a0_3 == a1_3) = true := beq_iff_eq.mpr c6
     have c6b1 : (a0_3 != a1_3) = false := bne_eq_false_iff_eq.mpr c6
     clear c6
     obtain rfl := Option.some.inj H
     go_enter Try.func92, Try.ntmps92
     go_wp2_with (first | ((with_reducible refine gate_dst (N := 2) rfl ?_); refine box_event ?hg (N := 2) ?hd (cs := #[.int .i64 a0_0, .int .i64 a0_1, .int .i64 a0_2, .int .i64 a0_3]) (t := 118) ?hr ?_; (case hd => rfl); (case hg => rfl); (case hr => first | (go_simp; done) | (go_simp; rfl)); intro gb431 hg w7 hbox hb; have n0_ := sk_' (pp_' (bm HB) hb); have n1_ := sk_' (hbox); have n2_ := sk_' ((by rw [hg]; exact (ps_' (bm HB)) : w.heap.size ≤ gb431)); have n3_ := sk_' ((by rw [hg]; exact (ps_' (bm HB)) : w.heap.size ≤ gb431)); clear HB; have HB := n0_; have BK431 := n1_; have GW431 := n2_; have GE431 := n3_; clear n0_ n1_ n2_ n3_; clear hb hbox hg) | ((with_reducible refine gate_dst (N := 3) rfl ?_); refine box_event ?hg (N := 3) ?hd (cs := #[.int .i64 a1_0, .int .i64 a1_1, .int .i64 a1_2, .int .i64 a1_3]) (t := 118) ?hr ?_; (case hd => rfl); (case hg => rfl); (case hr => first | (go_simp; done) | (go_simp; rfl)); intro gb432 hg w8 hbox hb; have n0_ := sk_' (blk_below (g := gb431) (o := .cells #[.int .i64 a0_0, .int .i64 a0_1, .int .i64 a0_2, .int .i64 a0_3] 118 (0, 0)) (km BK431) hb); have n1_ := sk_' (pp_' (bm HB) hb); have n2_ := sk_' (hbox); have n3_ := sk_' ((by rw [hg]; exact (ps_' (bm HB)) : w.heap.size ≤ gb432)); have n4_ := sk_' ((by rw [hg]; exact (ps_' (bm HB)) : w.heap.size ≤ gb432)); have n5_ := sk_' ((by rw [hg]; exact Nat.ne_of_lt (blk_lt (g := gb431) (o := .cells #[.int .i64 a0_0, .int .i64 a0_1, .int .i64 a0_2, .int .i64 a0_3] 118 (0, 0)) (km BK431)) : gb431 ≠ gb432)); have n6_ := sk_' ((by rw [hg]; exact Nat.ne_of_gt (blk_lt (g := gb431) (o := .cells #[.int .i64 a0_0, .int .i64 a0_1, .int .i64 a0_2, .int .i64 a0_3] 118 (0, 0)) (km BK431)) : gb432 ≠ gb431)); clear BK431; clear HB; have BK431 := n0_; have HB := n1_; have BK432 := n2_; have GW432 := n3_; have GE432 := n4_; have NB431_432 := n5_; have NB432_431 := n6_; clear n0_ n1_ n2_ n3_ n4_ n5_ n6_; clear hb hbox hg; have hnb9 := NB431_432.out; have hnc9 := NB432_431.out; have hcz10_0 : w8.cell? ⟨gb431, 0, none⟩ = some (.int .i64 a0_0) := (kc_' BK431.out 0).trans rfl; have hcz10_1 : w8.cell? ⟨gb431, 1, none⟩ = some (.int .i64 a0_1) := (kc_' BK431.out 1).trans rfl; have hcz10_2 : w8.cell? ⟨gb431, 2, none⟩ = some (.int .i64 a0_2) := (kc_' BK431.out 2).trans rfl; have hcz10_3 : w8.cell? ⟨gb431, 3, none⟩ = some (.int .i64 a0_3) := (kc_' BK431.out 3).trans rfl; have hfz10_0 := kf_' BK431.out 0; have hfz10_1 := kf_' BK431.out 1; have hfz10_2 := kf_' BK431.out 2; have hfz10_3 := kf_' BK431.out 3; have hcz11_0 : w8.cell? ⟨gb432, 0, none⟩ = some (.int .i64 a1_0) := (kc_' BK432.out 0).trans rfl; have hcz11_1 : w8.cell? ⟨gb432, 1, none⟩ = some (.int .i64 a1_1) := (kc_' BK432.out 1).trans rfl; have hcz11_2 : w8.cell? ⟨gb432, 2, none⟩ = some (.int .i64 a1_2) := (kc_' BK432.out 2).trans rfl; have hcz11_3 : w8.cell? ⟨gb432, 3, none⟩ = some (.int .i64 a1_3) := (kc_' BK432.out 3).trans rfl; have hfz11_0 := kf_' BK432.out 0; have hfz11_1 := kf_' BK432.out 1; have hfz11_2 := kf_' BK432.out 2; have hfz11_3 := kf_' BK432.out 3))
     go_ret
     exact ⟨rfl, bm HB⟩
    rw [if_neg c6] at H
    have c6b0 : (a0_3 == a1_3) = false := beq_eq_false_iff_ne.mpr c6
    have c6b1 : (a0_3 != a1_3) = true := bne_iff_ne.mpr c6
    obtain rfl := Option.some.inj H
    go_enter Try.func92, Try.ntmps92
    go_wp2_with (first | ((with_reducible refine gate_dst (N := 2) rfl ?_); refine box_event ?hg (N := 2) ?hd (cs := #[.int .i64 a0_0, .int .i64 a0_1, .int .i64 a0_2, .int .i64 a0_3]) (t := 118) ?hr ?_; (case hd => rfl); (case hg => rfl); (case hr => first | (go_simp; done) | (go_simp; rfl)); intro gb431 hg w12 hbox hb; have n0_ := sk_' (pp_' (bm HB) hb); have n1_ := sk_' (hbox); have n2_ := sk_' ((by rw [hg]; exact (ps_' (bm HB)) : w.heap.size ≤ gb431)); have n3_ := sk_' ((by rw [hg]; exact (ps_' (bm HB)) : w.heap.size ≤ gb431)); clear HB; have HB := n0_; have BK431 := n1_; have GW431 := n2_; have GE431 := n3_; clear n0_ n1_ n2_ n3_; clear hb hbox hg) | ((with_reducible refine gate_dst (N := 3) rfl ?_); refine box_event ?hg (N := 3) ?hd (cs := #[.int .i64 a1_0, .int .i64 a1_1, .int .i64 a1_2, .int .i64 a1_3]) (t := 118) ?hr ?_; (case hd => rfl); (case hg => rfl); (case hr => first | (go_simp; done) | (go_simp; rfl)); intro gb432 hg w13 hbox hb; have n0_ := sk_' (blk_below (g := gb431) (o := .cells #[.int .i64 a0_0, .int .i64 a0_1, .int .i64 a0_2, .int .i64 a0_3] 118 (0, 0)) (km BK431) hb); have n1_ := sk_' (pp_' (bm HB) hb); have n2_ := sk_' (hbox); have n3_ := sk_' ((by rw [hg]; exact (ps_' (bm HB)) : w.heap.size ≤ gb432)); have n4_ := sk_' ((by rw [hg]; exact (ps_' (bm HB)) : w.heap.size ≤ gb432)); have n5_ := sk_' ((by rw [hg]; exact Nat.ne_of_lt (blk_lt (g := gb431) (o := .cells #[.int .i64 a0_0, .int .i64 a0_1, .int .i64 a0_2, .int .i64 a0_3] 118 (0, 0)) (km BK431)) : gb431 ≠ gb432)); have n6_ := sk_' ((by rw [hg]; exact Nat.ne_of_gt (blk_lt (g := gb431) (o := .cells #[.int .i64 a0_0, .int .i64 a0_1, .int .i64 a0_2, .int .i64 a0_3] 118 (0, 0)) (km BK431)) : gb432 ≠ gb431)); clear BK431; clear HB; have BK431 := n0_; have HB := n1_; have BK432 := n2_; have GW432 := n3_; have GE432 := n4_; have NB431_432 := n5_; have NB432_431 := n6_; clear n0_ n1_ n2_ n3_ n4_ n5_ n6_; clear hb hbox hg; have hnb14 := NB431_432.out; have hnc14 := NB432_431.out; have hcz15_0 : w13.cell? ⟨gb431, 0, none⟩ = some (.int .i64 a0_0) := (kc_' BK431.out 0).trans rfl; have hcz15_1 : w13.cell? ⟨gb431, 1, none⟩ = some (.int .i64 a0_1) := (kc_' BK431.out 1).trans rfl; have hcz15_2 : w13.cell? ⟨gb431, 2, none⟩ = some (.int .i64 a0_2) := (kc_' BK431.out 2).trans rfl; have hcz15_3 : w13.cell? ⟨gb431, 3, none⟩ = some (.int .i64 a0_3) := (kc_' BK431.out 3).trans rfl; have hfz15_0 := kf_' BK431.out 0; have hfz15_1 := kf_' BK431.out 1; have hfz15_2 := kf_' BK431.out 2; have hfz15_3 := kf_' BK431.out 3; have hcz16_0 : w13.cell? ⟨gb432, 0, none⟩ = some (.int .i64 a1_0) := (kc_' BK432.out 0).trans rfl; have hcz16_1 : w13.cell? ⟨gb432, 1, none⟩ = some (.int .i64 a1_1) := (kc_' BK432.out 1).trans rfl; have hcz16_2 : w13.cell? ⟨gb432, 2, none⟩ = some (.int .i64 a1_2) := (kc_' BK432.out 2).trans rfl; have hcz16_3 : w13.cell? ⟨gb432, 3, none⟩ = some (.int .i64 a1_3) := (kc_' BK432.out 3).trans rfl; have hfz16_0 := kf_' BK432.out 0; have hfz16_1 := kf_' BK432.out 1; have hfz16_2 := kf_' BK432.out 2; have hfz16_3 := kf_' BK432.out 3))
    go_ret
    exact ⟨rfl, bm HB⟩
   rw [if_neg c5] at H
   have c5b0 : (a0_2 == a1_2) = false := beq_eq_false_iff_ne.mpr c5
   have c5b1 : (a0_2 != a1_2) = true := bne_iff_ne.mpr c5
   obtain rfl := Option.some.inj H
   go_enter Try.func92, Try.ntmps92
   go_wp2_with (first | ((with_reducible refine gate_dst (N := 2) rfl ?_); refine box_event ?hg (N := 2) ?hd (cs := #[.int .i64 a0_0, .int .i64 a0_1, .int .i64 a0_2, .int .i64 a0_3]) (t := 118) ?hr ?_; (case hd => rfl); (case hg => rfl); (case hr => first | (go_simp; done) | (go_simp; rfl)); intro gb431 hg w17 hbox hb; have n0_ := sk_' (pp_' (bm HB) hb); have n1_ := sk_' (hbox); have n2_ := sk_' ((by rw [hg]; exact (ps_' (bm HB)) : w.heap.size ≤ gb431)); have n3_ := sk_' ((by rw [hg]; exact (ps_' (bm HB)) : w.heap.size ≤ gb431)); clear HB; have HB := n0_; have BK431 := n1_; have GW431 := n2_; have GE431 := n3_; clear n0_ n1_ n2_ n3_; clear hb hbox hg) | ((with_reducible refine gate_dst (N := 3) rfl ?_); refine box_event ?hg (N := 3) ?hd (cs := #[.int .i64 a1_0, .int .i64 a1_1, .int .i64 a1_2, .int .i64 a1_3]) (t := 118) ?hr ?_; (case hd => rfl); (case hg => rfl); (case hr => first | (go_simp; done) | (go_simp; rfl)); intro gb432 hg w18 hbox hb; have n0_ := sk_' (blk_below (g := gb431) (o := .cells #[.int .i64 a0_0, .int .i64 a0_1, .int .i64 a0_2, .int .i64 a0_3] 118 (0, 0)) (km BK431) hb); have n1_ := sk_' (pp_' (bm HB) hb); have n2_ := sk_' (hbox); have n3_ := sk_' ((by rw [hg]; exact (ps_' (bm HB)) : w.heap.size ≤ gb432)); have n4_ := sk_' ((by rw [hg]; exact (ps_' (bm HB)) : w.heap.size ≤ gb432)); have n5_ := sk_' ((by rw [hg]; exact Nat.ne_of_lt (blk_lt (g := gb431) (o := .cells #[.int .i64 a0_0, .int .i64 a0_1, .int .i64 a0_2, .int .i64 a0_3] 118 (0, 0)) (km BK431)) : gb431 ≠ gb432)); have n6_ := sk_' ((by rw [hg]; exact Nat.ne_of_gt (blk_lt (g := gb431) (o := .cells #[.int .i64 a0_0, .int .i64 a0_1, .int .i64 a0_2, .int .i64 a0_3] 118 (0, 0)) (km BK431)) : gb432 ≠ gb431)); clear BK431; clear HB; have BK431 := n0_; have HB := n1_; have BK432 := n2_; have GW432 := n3_; have GE432 := n4_; have NB431_432 := n5_; have NB432_431 := n6_; clear n0_ n1_ n2_ n3_ n4_ n5_ n6_; clear hb hbox hg; have hnb19 := NB431_432.out; have hnc19 := NB432_431.out; have hcz20_0 : w18.cell? ⟨gb431, 0, none⟩ = some (.int .i64 a0_0) := (kc_' BK431.out 0).trans rfl; have hcz20_1 : w18.cell? ⟨gb431, 1, none⟩ = some (.int .i64 a0_1) := (kc_' BK431.out 1).trans rfl; have hcz20_2 : w18.cell? ⟨gb431, 2, none⟩ = some (.int .i64 a0_2) := (kc_' BK431.out 2).trans rfl; have hcz20_3 : w18.cell? ⟨gb431, 3, none⟩ = some (.int .i64 a0_3) := (kc_' BK431.out 3).trans rfl; have hfz20_0 := kf_' BK431.out 0; have hfz20_1 := kf_' BK431.out 1; have hfz20_2 := kf_' BK431.out 2; have hfz20_3 := kf_' BK431.out 3; have hcz21_0 : w18.cell? ⟨gb432, 0, none⟩ = some (.int .i64 a1_0) := (kc_' BK432.out 0).trans rfl; have hcz21_1 : w18.cell? ⟨gb432, 1, none⟩ = some (.int .i64 a1_1) := (kc_' BK432.out 1).trans rfl; have hcz21_2 : w18.cell? ⟨gb432, 2, none⟩ = some (.int .i64 a1_2) := (kc_' BK432.out 2).trans rfl; have hcz21_3 : w18.cell? ⟨gb432, 3, none⟩ = some (.int .i64 a1_3) := (kc_' BK432.out 3).trans rfl; have hfz21_0 := kf_' BK432.out 0; have hfz21_1 := kf_' BK432.out 1; have hfz21_2 := kf_' BK432.out 2; have hfz21_3 := kf_' BK432.out 3))
   go_ret
   exact ⟨rfl, bm HB⟩
  rw [if_neg c4] at H
  have c4b0 : (a0_1 == a1_1) = false := beq_eq_false_iff_ne.mpr c4
  have c4b1 : (a0_1 != a1_1) = true := bne_iff_ne.mpr c4
  obtain rfl := Option.some.inj H
  go_enter Try.func92, Try.ntmps92
  go_wp2_with (first | ((with_reducible refine gate_dst (N := 2) rfl ?_); refine box_event ?hg (N := 2) ?hd (cs := #[.int .i64 a0_0, .int .i64 a0_1, .int .i64 a0_2, .int .i64 a0_3]) (t := 118) ?hr ?_; (case hd => rfl); (case hg => rfl); (case hr => first | (go_simp; done) | (go_simp; rfl)); intro gb431 hg w22 hbox hb; have n0_ := sk_' (pp_' (bm HB) hb); have n1_ := sk_' (hbox); have n2_ := sk_' ((by rw [hg]; exact (ps_' (bm HB)) : w.heap.size ≤ gb431)); have n3_ := sk_' ((by rw [hg]; exact (ps_' (bm HB)) : w.heap.size ≤ gb431)); clear HB; have HB := n0_; have BK431 := n1_; have GW431 := n2_; have GE431 := n3_; clear n0_ n1_ n2_ n3_; clear hb hbox hg) | ((with_reducible refine gate_dst (N := 3) rfl ?_); refine box_event ?hg (N := 3) ?hd (cs := #[.int .i64 a1_0, .int .i64 a1_1, .int .i64 a1_2, .int .i64 a1_3]) (t := 118) ?hr ?_; (case hd => rfl); (case hg => rfl); (case hr => first | (go_simp; done) | (go_simp; rfl)); intro gb432 hg w23 hbox hb; have n0_ := sk_' (blk_below (g := gb431) (o := .cells #[.int .i64 a0_0, .int .i64 a0_1, .int .i64 a0_2, .int .i64 a0_3] 118 (0, 0)) (km BK431) hb); have n1_ := sk_' (pp_' (bm HB) hb); have n2_ := sk_' (hbox); have n3_ := sk_' ((by rw [hg]; exact (ps_' (bm HB)) : w.heap.size ≤ gb432)); have n4_ := sk_' ((by rw [hg]; exact (ps_' (bm HB)) : w.heap.size ≤ gb432)); have n5_ := sk_' ((by rw [hg]; exact Nat.ne_of_lt (blk_lt (g := gb431) (o := .cells #[.int .i64 a0_0, .int .i64 a0_1, .int .i64 a0_2, .int .i64 a0_3] 118 (0, 0)) (km BK431)) : gb431 ≠ gb432)); have n6_ := sk_' ((by rw [hg]; exact Nat.ne_of_gt (blk_lt (g := gb431) (o := .cells #[.int .i64 a0_0, .int .i64 a0_1, .int .i64 a0_2, .int .i64 a0_3] 118 (0, 0)) (km BK431)) : gb432 ≠ gb431)); clear BK431; clear HB; have BK431 := n0_; have HB := n1_; have BK432 := n2_; have GW432 := n3_; have GE432 := n4_; have NB431_432 := n5_; have NB432_431 := n6_; clear n0_ n1_ n2_ n3_ n4_ n5_ n6_; clear hb hbox hg; have hnb24 := NB431_432.out; have hnc24 := NB432_431.out; have hcz25_0 : w23.cell? ⟨gb431, 0, none⟩ = some (.int .i64 a0_0) := (kc_' BK431.out 0).trans rfl; have hcz25_1 : w23.cell? ⟨gb431, 1, none⟩ = some (.int .i64 a0_1) := (kc_' BK431.out 1).trans rfl; have hcz25_2 : w23.cell? ⟨gb431, 2, none⟩ = some (.int .i64 a0_2) := (kc_' BK431.out 2).trans rfl; have hcz25_3 : w23.cell? ⟨gb431, 3, none⟩ = some (.int .i64 a0_3) := (kc_' BK431.out 3).trans rfl; have hfz25_0 := kf_' BK431.out 0; have hfz25_1 := kf_' BK431.out 1; have hfz25_2 := kf_' BK431.out 2; have hfz25_3 := kf_' BK431.out 3; have hcz26_0 : w23.cell? ⟨gb432, 0, none⟩ = some (.int .i64 a1_0) := (kc_' BK432.out 0).trans rfl; have hcz26_1 : w23.cell? ⟨gb432, 1, none⟩ = some (.int .i64 a1_1) := (kc_' BK432.out 1).trans rfl; have hcz26_2 : w23.cell? ⟨gb432, 2, none⟩ = some (.int .i64 a1_2) := (kc_' BK432.out 2).trans rfl; have hcz26_3 : w23.cell? ⟨gb432, 3, none⟩ = some (.int .i64 a1_3) := (kc_' BK432.out 3).trans rfl; have hfz26_0 := kf_' BK432.out 0; have hfz26_1 := kf_' BK432.out 1; have hfz26_2 := kf_' BK432.out 2; have hfz26_3 := kf_' BK432.out 3))
  go_ret
  exact ⟨rfl, bm HB⟩
 rw [if_neg c3] at H
 have c3b0 : (a0_0 == a1_0) = false := beq_eq_false_iff_ne.mpr c3
 have c3b1 : (a0_0 != a1_0) = true := bne_iff_ne.mpr c3
 obtain rfl := Option.some.inj H
 go_enter Try.func92, Try.ntmps92
 go_wp2_with (first | ((with_reducible refine gate_dst (N := 2) rfl ?_); refine box_event ?hg (N := 2) ?hd (cs := #[.int .i64 a0_0, .int .i64 a0_1, .int .i64 a0_2, .int .i64 a0_3]) (t := 118) ?hr ?_; (case hd => rfl); (case hg => rfl); (case hr => first | (go_simp; done) | (go_simp; rfl)); intro gb431 hg w27 hbox hb; have n0_ := sk_' (pp_' (bm HB) hb); have n1_ := sk_' (hbox); have n2_ := sk_' ((by rw [hg]; exact (ps_' (bm HB)) : w.heap.size ≤ gb431)); have n3_ := sk_' ((by rw [hg]; exact (ps_' (bm HB)) : w.heap.size ≤ gb431)); clear HB; have HB := n0_; have BK431 := n1_; have GW431 := n2_; have GE431 := n3_; clear n0_ n1_ n2_ n3_; clear hb hbox hg) | ((with_reducible refine gate_dst (N := 3) rfl ?_); refine box_event ?hg (N := 3) ?hd (cs := #[.int .i64 a1_0, .int .i64 a1_1, .int .i64 a1_2, .int .i64 a1_3]) (t := 118) ?hr ?_; (case hd => rfl); (case hg => rfl); (case hr => first | (go_simp; done) | (go_simp; rfl)); intro gb432 hg w28 hbox hb; have n0_ := sk_' (blk_below (g := gb431) (o := .cells #[.int .i64 a0_0, .int .i64 a0_1, .int .i64 a0_2, .int .i64 a0_3] 118 (0, 0)) (km BK431) hb); have n1_ := sk_' (pp_' (bm HB) hb); have n2_ := sk_' (hbox); have n3_ := sk_' ((by rw [hg]; exact (ps_' (bm HB)) : w.heap.size ≤ gb432)); have n4_ := sk_' ((by rw [hg]; exact (ps_' (bm HB)) : w.heap.size ≤ gb432)); have n5_ := sk_' ((by rw [hg]; exact Nat.ne_of_lt (blk_lt (g := gb431) (o := .cells #[.int .i64 a0_0, .int .i64 a0_1, .int .i64 a0_2, .int .i64 a0_3] 118 (0, 0)) (km BK431)) : gb431 ≠ gb432)); have n6_ := sk_' ((by rw [hg]; exact Nat.ne_of_gt (blk_lt (g := gb431) (o := .cells #[.int .i64 a0_0, .int .i64 a0_1, .int .i64 a0_2, .int .i64 a0_3] 118 (0, 0)) (km BK431)) : gb432 ≠ gb431)); clear BK431; clear HB; have BK431 := n0_; have HB := n1_; have BK432 := n2_; have GW432 := n3_; have GE432 := n4_; have NB431_432 := n5_; have NB432_431 := n6_; clear n0_ n1_ n2_ n3_ n4_ n5_ n6_; clear hb hbox hg; have hnb29 := NB431_432.out; have hnc29 := NB432_431.out; have hcz30_0 : w28.cell? ⟨gb431, 0, none⟩ = some (.int .i64 a0_0) := (kc_' BK431.out 0).trans rfl; have hcz30_1 : w28.cell? ⟨gb431, 1, none⟩ = some (.int .i64 a0_1) := (kc_' BK431.out 1).trans rfl; have hcz30_2 : w28.cell? ⟨gb431, 2, none⟩ = some (.int .i64 a0_2) := (kc_' BK431.out 2).trans rfl; have hcz30_3 : w28.cell? ⟨gb431, 3, none⟩ = some (.int .i64 a0_3) := (kc_' BK431.out 3).trans rfl; have hfz30_0 := kf_' BK431.out 0; have hfz30_1 := kf_' BK431.out 1; have hfz30_2 := kf_' BK431.out 2; have hfz30_3 := kf_' BK431.out 3; have hcz31_0 : w28.cell? ⟨gb432, 0, none⟩ = some (.int .i64 a1_0) := (kc_' BK432.out 0).trans rfl; have hcz31_1 : w28.cell? ⟨gb432, 1, none⟩ = some (.int .i64 a1_1) := (kc_' BK432.out 1).trans rfl; have hcz31_2 : w28.cell? ⟨gb432, 2, none⟩ = some (.int .i64 a1_2) := (kc_' BK432.out 2).trans rfl; have hcz31_3 : w28.cell? ⟨gb432, 3, none⟩ = some (.int .i64 a1_3) := (kc_' BK432.out 3).trans rfl; have hfz31_0 := kf_' BK432.out 0; have hfz31_1 := kf_' BK432.out 1; have hfz31_2 := kf_' BK432.out 2; have hfz31_3 := kf_' BK432.out 3))
 go_ret
 exact ⟨rfl, bm HB⟩
end Go.Proofs.Ytiophiipmgpaeaa.F

namespace Go.Proofs.Ytiophiipmgpaeaa.F
open Go.RowKit Go.Proofs.YtiophiipmgpaeaaW.PrintWords Go.Proofs.YtiophiipmgpaeaaW.PrintLast Go.Proofs.YtiophiipmgpaeaaW.PrintMore
attribute [local go_sem] max2_int min2_int max_two min_two max_three min_three max_four min_four
set_option linter.unusedVariables false
set_option linter.unusedSimpArgs false
def laws_eqEventS.l0 : Nat → List (S118) → List (S118) → Int → Option (Bool)
 | 0, _, _, _ => none
 | k + 1, x0, x1, x5 => if x5 < (x0.length : Int) then (if 0 ≤ x5 then (if x5 < (x1.length : Int) then ((laws_eqEvent.f ((rd_T118 x0 x5).f0) ((rd_T118 x0 x5).f1) ((rd_T118 x0 x5).f2) ((rd_T118 x0 x5).f3) ((rd_T118 x1 x5).f0) ((rd_T118 x1 x5).f1) ((rd_T118 x1 x5).f2) ((rd_T118 x1 x5).f3)).bind fun t435 => (if t435 = true then (laws_eqEventS.l0 k x0 x1 (wrap64 (x5 + 1))) else (some false))) else (none)) else (none)) else (some true)
def laws_eqEventS.f (k : Nat) (l0 : List (S118)) (l1 : List (S118)) : Option (Bool) := if (l0.length : Int) = (l1.length : Int) then (laws_eqEventS.l0 k l0 l1 0) else (some false)
def laws_eqEventS.T6 : Bool × List (List Nat × List Nat) := (true, [([], []), ([], []), ([0, 1], [0, 1]), ([2], [2]), ([], []), ([], []), ([4, 5], [4, 5]), ([6], [6]), ([3, 7], [3, 7]), ([8], [8])])
def laws_eqEventS.B6 : List Nat := [0, 0, 3, 7, 0, 0, 48, 112, 255, 511]
theorem laws_eqEventS.tab6 : rtab .any (opsOf Try.f41 6) = laws_eqEventS.T6 := by kernel_rfl
theorem laws_eqEventS.bits6 : waitsOk laws_eqEventS.T6.2 laws_eqEventS.B6 = true := by kernel_rfl
set_option maxHeartbeats 8000000 in
set_option maxRecDepth 100000 in
theorem laws_eqEventS.calls (k : Nat) (A0 : Option Addr) (c0 : Nat) (l0 : List (S118)) (A1 : Option Addr) (c1 : Nat) (l1 : List (S118)) (r : Bool) (w : World) (hr0 : Kd.C k118 w A0 l0.length l0) (hc0 : l0.length ≤ c0) (hr1 : Kd.C k118 w A1 l1.length l1) (hc1 : l1.length ≤ c1) (h : laws_eqEventS.f k l0 l1 = some r) :
  Calls Try.prog 41 #[.slice A0 l0.length c0, .slice A1 l1.length c1] w fun e w' => e = .returned (.bool r) ∧ Below w.heap.size w w' := by
 have hu118 := Try.underlying118
 have HR0 := sk_' hr0
 have HC0 := sk_' hc0
 clear hr0 hc0
 have HR1 := sk_' hr1
 have HC1 := sk_' hc1
 clear hr1 hc1
 have HB := sk_' (Below.refl w.heap.size w)
 have H : (if (l0.length : Int) = (l1.length : Int) then (laws_eqEventS.l0 k l0 l1 0) else (some false)) = some r := h
 clear h
 by_cases c3 : (l0.length : Int) = (l1.length : Int)
 ·
  rw [if_pos c3] at H
  have c3b0 : ((l0.length : Int) == (l1.length : Int)) = true := beq_iff_eq.mpr c3
  have c3b1 : ((l0.length : Int) != (l1.length : Int)) = false := bne_eq_false_iff_eq.mpr c3
  have c3b2 : (l0.length == l1.length) = true := by first | simpa using c3 | (simp at c3 ⊢; omega)
  clear c3
  have H' := sk_' H
  clear H
  go_enter Try.func41, Try.ntmps41
  go_wp2
  go_loopg [5] k (fun kq v5 w' => ∃ (x5_1 : Int), v5 = .int .i64 x5_1 ∧ Aside0 (laws_eqEventS.l0 kq l0 l1 x5_1 = some r) ∧ Aside0 (kq ≤ k) ∧ Aside0 (Below w.heap.size w w'))
  case atStart => exact ⟨(0), rfl, H', ⟨Nat.le_refl _⟩, ⟨bm HB⟩⟩
  case round =>
   clear H'
   try clear c1
   try clear p2
   try clear c3
   try clear c3b0
   try clear c3b1
   try clear c3b2
   obtain ⟨x5_1, rfl, HA, HK1, HB⟩ := hrel
   cases gk with
   | zero => exact absurd HA.out (by simp [laws_eqEventS.l0])
   | succ k1 =>
    have H := HA.out
    clear HA
    simp only [laws_eqEventS.l0] at H
    by_cases c4 : x5_1 < (l0.length : Int)
    ·
     rw [if_pos c4] at H
     have c4b0 : decide (x5_1 < (l0.length : Int)) = true := decide_eq_true c4
     clear c4
     by_cases c5 : 0 ≤ x5_1
     ·
      rw [if_pos c5] at H
      have c5b0 : decide (0 ≤ x5_1) = true := decide_eq_true c5
      clear c5
      by_cases c6 : x5_1 < (l1.length : Int)
      ·
       rw [if_pos c6] at H
       have c6b0 : decide (x5_1 < (l1.length : Int)) = true := decide_eq_true c6
       clear c6
       replace H := bs_' H
       obtain ⟨t435, A70, H⟩ := H
       try dsimp only at H
       have A7 := sk_' A70
       clear A70
       by_cases c8 : t435 = true
       ·
        subst c8
        rw [if_pos rfl] at H
        have H' := sk_' H
        clear H
        try go_wp2
        have n0_ := sk_' (pd_' HB.out)
        clear HB
        have HB := n0_
        clear n0_
        have p433 : 0 ≤ (x5_1 : Int) := od_' (by first | (with_reducible assumption) | assumption)
        have q433 : x5_1 < (l0.length : Int) := od_' (by first | (with_reducible assumption) | assumption)
        obtain ⟨ad433, e433, hx433_0, hx433_1, hx433_2, hx433_3⟩ := at_T118 HR0.out x5_1 p433 q433
        have hw433_3 := hx433_3
        have hw433_2 := hx433_2
        have hw433_1 := hx433_1
        have hw433_0 := hx433_0
        cases e433
        replace hx433_0 := (HB.out.cell (bq_' w _ hx433_0)).trans hx433_0
        replace hx433_1 := (HB.out.cell (bq_' w _ hx433_1)).trans hx433_1
        replace hx433_2 := (HB.out.cell (bq_' w _ hx433_2)).trans hx433_2
        replace hx433_3 := (HB.out.cell (bq_' w _ hx433_3)).trans hx433_3
        replace p433 := eq_true p433
        replace q433 := eq_true q433
        have p434 : 0 ≤ (x5_1 : Int) := od_' (by first | (with_reducible assumption) | assumption)
        have q434 : x5_1 < (l1.length : Int) := od_' (by first | (with_reducible assumption) | assumption)
        obtain ⟨ad434, e434, hx434_0, hx434_1, hx434_2, hx434_3⟩ := at_T118 HR1.out x5_1 p434 q434
        have hw434_3 := hx434_3
        have hw434_2 := hx434_2
        have hw434_1 := hx434_1
        have hw434_0 := hx434_0
        cases e434
        replace hx434_0 := (HB.out.cell (bq_' w _ hx434_0)).trans hx434_0
        replace hx434_1 := (HB.out.cell (bq_' w _ hx434_1)).trans hx434_1
        replace hx434_2 := (HB.out.cell (bq_' w _ hx434_2)).trans hx434_2
        replace hx434_3 := (HB.out.cell (bq_' w _ hx434_3)).trans hx434_3
        replace p434 := eq_true p434
        replace q434 := eq_true q434
        refine BelowW.region (by kernel_rfl) (by kernel_rfl) ?_
        have hq0_ : wr.drew.cell? (ad433.add ((x5_1).toNat * 4)) = some (.int .i64 ((rd_T118 l0 x5_1).f0)) := ((HB.out.cell (bq_' w _ hw433_0)).trans hw433_0)
        have hq1_ : wr.drew.cell? ⟨(ad433.add ((x5_1).toNat * 4)).block, (ad433.add ((x5_1).toNat * 4)).off + 1, none⟩ = some (.int .i64 ((rd_T118 l0 x5_1).f1)) := ((HB.out.cell (bq_' w _ hw433_1)).trans hw433_1)
        have hq2_ : wr.drew.cell? ⟨(ad433.add ((x5_1).toNat * 4)).block, (ad433.add ((x5_1).toNat * 4)).off + 2, none⟩ = some (.int .i64 ((rd_T118 l0 x5_1).f2)) := ((HB.out.cell (bq_' w _ hw433_2)).trans hw433_2)
        have hq3_ : wr.drew.cell? ⟨(ad433.add ((x5_1).toNat * 4)).block, (ad433.add ((x5_1).toNat * 4)).off + 3, none⟩ = some (.int .i64 ((rd_T118 l0 x5_1).f3)) := ((HB.out.cell (bq_' w _ hw433_3)).trans hw433_3)
        have hq4_ : wr.drew.cell? (ad434.add ((x5_1).toNat * 4)) = some (.int .i64 ((rd_T118 l1 x5_1).f0)) := ((HB.out.cell (bq_' w _ hw434_0)).trans hw434_0)
        have hq5_ : wr.drew.cell? ⟨(ad434.add ((x5_1).toNat * 4)).block, (ad434.add ((x5_1).toNat * 4)).off + 1, none⟩ = some (.int .i64 ((rd_T118 l1 x5_1).f1)) := ((HB.out.cell (bq_' w _ hw434_1)).trans hw434_1)
        have hq6_ : wr.drew.cell? ⟨(ad434.add ((x5_1).toNat * 4)).block, (ad434.add ((x5_1).toNat * 4)).off + 2, none⟩ = some (.int .i64 ((rd_T118 l1 x5_1).f2)) := ((HB.out.cell (bq_' w _ hw434_2)).trans hw434_2)
        have hq7_ : wr.drew.cell? ⟨(ad434.add ((x5_1).toNat * 4)).block, (ad434.add ((x5_1).toNat * 4)).off + 3, none⟩ = some (.int .i64 ((rd_T118 l1 x5_1).f3)) := ((HB.out.cell (bq_' w _ hw434_3)).trans hw434_3)
        generalize wr.drew = w9 at HB hx433_0 hx433_1 hx433_2 hx433_3 hx434_0 hx434_1 hx434_2 hx434_3 hq0_ hq1_ hq2_ hq3_ hq4_ hq5_ hq6_ hq7_ ⊢
        replace hq0_ := BelowW.at hq0_
        replace hq1_ := BelowW.at hq1_
        replace hq2_ := BelowW.at hq2_
        replace hq3_ := BelowW.at hq3_
        replace hq4_ := BelowW.at hq4_
        replace hq5_ := BelowW.at hq5_
        replace hq6_ := BelowW.at hq6_
        replace hq7_ := BelowW.at hq7_
        change wpQuiet _ _ _ _ (List.cons _ _) _
        repeat (go_big_quiet_step (first | (go_at_call 92; (with_reducible refine (laws_eqEvent.calls ((rd_T118 l0 x5_1).f0) ((rd_T118 l0 x5_1).f1) ((rd_T118 l0 x5_1).f2) ((rd_T118 l0 x5_1).f3) ((rd_T118 l1 x5_1).f0) ((rd_T118 l1 x5_1).f1) ((rd_T118 l1 x5_1).f2) ((rd_T118 l1 x5_1).f3) true _ A7.out).mono ?_); exact fun _ _ h_ => ⟨h_.1, BelowW.step _ h_.2⟩)))
        refine wpQuiet_nil ?_
        intro w10 hb
        try simp only [i64_w, i32_w]
        clear hq0_ hq1_ hq2_ hq3_ hq4_ hq5_ hq6_ hq7_
        have n0_ := sk_' (pp_' (bm HB) hb)
        clear HB
        have HB := n0_
        clear n0_
        (try clear hb)
        (try clear hb2)
        (try clear hk)
        (try clear hi)
        try go_wp2
        go_roundg k1
        case measure => have := HK1.out; omega
        case rel => exact ⟨(wrap64 (x5_1 + 1)), rfl, H', ⟨by have := HK1.out; omega⟩, ⟨bm HB⟩⟩
       replace c8 := Bool.eq_false_iff.mpr c8
       subst c8
       rw [if_neg (show ¬ (false = true) by decide)] at H
       obtain rfl := Option.some.inj H
       try go_wp2
       have n0_ := sk_' (pd_' HB.out)
       clear HB
       have HB := n0_
       clear n0_
       have p433 : 0 ≤ (x5_1 : Int) := od_' (by first | (with_reducible assumption) | assumption)
       have q433 : x5_1 < (l0.length : Int) := od_' (by first | (with_reducible assumption) | assumption)
       obtain ⟨ad433, e433, hx433_0, hx433_1, hx433_2, hx433_3⟩ := at_T118 HR0.out x5_1 p433 q433
       have hw433_3 := hx433_3
       have hw433_2 := hx433_2
       have hw433_1 := hx433_1
       have hw433_0 := hx433_0
       cases e433
       replace hx433_0 := (HB.out.cell (bq_' w _ hx433_0)).trans hx433_0
       replace hx433_1 := (HB.out.cell (bq_' w _ hx433_1)).trans hx433_1
       replace hx433_2 := (HB.out.cell (bq_' w _ hx433_2)).trans hx433_2
       replace hx433_3 := (HB.out.cell (bq_' w _ hx433_3)).trans hx433_3
       replace p433 := eq_true p433
       replace q433 := eq_true q433
       have p434 : 0 ≤ (x5_1 : Int) := od_' (by first | (with_reducible assumption) | assumption)
       have q434 : x5_1 < (l1.length : Int) := od_' (by first | (with_reducible assumption) | assumption)
       obtain ⟨ad434, e434, hx434_0, hx434_1, hx434_2, hx434_3⟩ := at_T118 HR1.out x5_1 p434 q434
       have hw434_3 := hx434_3
       have hw434_2 := hx434_2
       have hw434_1 := hx434_1
       have hw434_0 := hx434_0
       cases e434
       replace hx434_0 := (HB.out.cell (bq_' w _ hx434_0)).trans hx434_0
       replace hx434_1 := (HB.out.cell (bq_' w _ hx434_1)).trans hx434_1
       replace hx434_2 := (HB.out.cell (bq_' w _ hx434_2)).trans hx434_2
       replace hx434_3 := (HB.out.cell (bq_' w _ hx434_3)).trans hx434_3
       replace p434 := eq_true p434
       replace q434 := eq_true q434
       refine BelowW.region (by kernel_rfl) (by kernel_rfl) ?_
       have hq0_ : wr.drew.cell? (ad433.add ((x5_1).toNat * 4)) = some (.int .i64 ((rd_T118 l0 x5_1).f0)) := ((HB.out.cell (bq_' w _ hw433_0)).trans hw433_0)
       have hq1_ : wr.drew.cell? ⟨(ad433.add ((x5_1).toNat * 4)).block, (ad433.add ((x5_1).toNat * 4)).off + 1, none⟩ = some (.int .i64 ((rd_T118 l0 x5_1).f1)) := ((HB.out.cell (bq_' w _ hw433_1)).trans hw433_1)
       have hq2_ : wr.drew.cell? ⟨(ad433.add ((x5_1).toNat * 4)).block, (ad433.add ((x5_1).toNat * 4)).off + 2, none⟩ = some (.int .i64 ((rd_T118 l0 x5_1).f2)) := ((HB.out.cell (bq_' w _ hw433_2)).trans hw433_2)
       have hq3_ : wr.drew.cell? ⟨(ad433.add ((x5_1).toNat * 4)).block, (ad433.add ((x5_1).toNat * 4)).off + 3, none⟩ = some (.int .i64 ((rd_T118 l0 x5_1).f3)) := ((HB.out.cell (bq_' w _ hw433_3)).trans hw433_3)
       have hq4_ : wr.drew.cell? (ad434.add ((x5_1).toNat * 4)) = some (.int .i64 ((rd_T118 l1 x5_1).f0)) := ((HB.out.cell (bq_' w _ hw434_0)).trans hw434_0)
       have hq5_ : wr.drew.cell? ⟨(ad434.add ((x5_1).toNat * 4)).block, (ad434.add ((x5_1).toNat * 4)).off + 1, none⟩ = some (.int .i64 ((rd_T118 l1 x5_1).f1)) := ((HB.out.cell (bq_' w _ hw434_1)).trans hw434_1)
       have hq6_ : wr.drew.cell? ⟨(ad434.add ((x5_1).toNat * 4)).block, (ad434.add ((x5_1).toNat * 4)).off + 2, none⟩ = some (.int .i64 ((rd_T118 l1 x5_1).f2)) := ((HB.out.cell (bq_' w _ hw434_2)).trans hw434_2)
       have hq7_ : wr.drew.cell? ⟨(ad434.add ((x5_1).toNat * 4)).block, (ad434.add ((x5_1).toNat * 4)).off + 3, none⟩ = some (.int .i64 ((rd_T118 l1 x5_1).f3)) := ((HB.out.cell (bq_' w _ hw434_3)).trans hw434_3)
       generalize wr.drew = w11 at HB hx433_0 hx433_1 hx433_2 hx433_3 hx434_0 hx434_1 hx434_2 hx434_3 hq0_ hq1_ hq2_ hq3_ hq4_ hq5_ hq6_ hq7_ ⊢
       replace hq0_ := BelowW.at hq0_
       replace hq1_ := BelowW.at hq1_
       replace hq2_ := BelowW.at hq2_
       replace hq3_ := BelowW.at hq3_
       replace hq4_ := BelowW.at hq4_
       replace hq5_ := BelowW.at hq5_
       replace hq6_ := BelowW.at hq6_
       replace hq7_ := BelowW.at hq7_
       change wpQuiet _ _ _ _ (List.cons _ _) _
       repeat (go_big_quiet_step (first | (go_at_call 92; (with_reducible refine (laws_eqEvent.calls ((rd_T118 l0 x5_1).f0) ((rd_T118 l0 x5_1).f1) ((rd_T118 l0 x5_1).f2) ((rd_T118 l0 x5_1).f3) ((rd_T118 l1 x5_1).f0) ((rd_T118 l1 x5_1).f1) ((rd_T118 l1 x5_1).f2) ((rd_T118 l1 x5_1).f3) false _ A7.out).mono ?_); exact fun _ _ h_ => ⟨h_.1, BelowW.step _ h_.2⟩)))
       refine wpQuiet_nil ?_
       intro w12 hb
       try simp only [i64_w, i32_w]
       clear hq0_ hq1_ hq2_ hq3_ hq4_ hq5_ hq6_ hq7_
       have n0_ := sk_' (pp_' (bm HB) hb)
       clear HB
       have HB := n0_
       clear n0_
       (try clear hb)
       (try clear hb2)
       (try clear hk)
       (try clear hi)
       try go_wp2
       go_ret
       exact ⟨rfl, bm HB⟩
      rw [if_neg c6] at H
      exact absurd H (by simp)
     rw [if_neg c5] at H
     exact absurd H (by simp)
    rw [if_neg c4] at H
    have c4b0 : decide (x5_1 < (l0.length : Int)) = false := decide_eq_false c4
    clear c4
    obtain rfl := Option.some.inj H
    go_wp2
    go_ret
    exact ⟨rfl, bm HB⟩
 rw [if_neg c3] at H
 have c3b0 : ((l0.length : Int) == (l1.length : Int)) = false := beq_eq_false_iff_ne.mpr c3
 have c3b1 : ((l0.length : Int) != (l1.length : Int)) = true := bne_iff_ne.mpr c3
 have c3b2 : (l0.length == l1.length) = false := by first | simpa using c3 | (simp at c3 ⊢; omega)
 obtain rfl := Option.some.inj H
 go_enter Try.func41, Try.ntmps41
 go_wp2
 go_ret
 exact ⟨rfl, bm HB⟩
end Go.Proofs.Ytiophiipmgpaeaa.F

namespace Go.Proofs.Ytiophiipmgpaeaa.F
open Go.RowKit Go.Proofs.YtiophiipmgpaeaaW.PrintWords Go.Proofs.YtiophiipmgpaeaaW.PrintLast Go.Proofs.YtiophiipmgpaeaaW.PrintMore
attribute [local go_sem] max2_int min2_int max_two min_two max_three min_three max_four min_four
set_option linter.unusedVariables false
set_option linter.unusedSimpArgs false
def laws_markEventS.l0 : Nat → List (S118) → Int → Int → Option (Int × (List (S118)))
 | 0, _, _, _ => none
 | k + 1, x0, x1, x5 => if x5 < (x0.length : Int) then (if 0 ≤ x5 then ((some (x0.set (x5 : Int).toNat (⟨x1, (rd_T118 x0 x5).f1, (rd_T118 x0 x5).f2, (rd_T118 x0 x5).f3⟩ : S118) : List (S118))).bind fun y444 => ((some (y444.set (x5 : Int).toNat (⟨(rd_T118 y444 x5).f0, wrap64 (x1 + 1), (rd_T118 y444 x5).f2, (rd_T118 y444 x5).f3⟩ : S118) : List (S118))).bind fun y445 => ((some (y445.set (x5 : Int).toNat (⟨(rd_T118 y445 x5).f0, (rd_T118 y445 x5).f1, wrap64 ((wrap64 (x1 + 1)) + 1), (rd_T118 y445 x5).f3⟩ : S118) : List (S118))).bind fun y446 => (laws_markEventS.l0 k (y446.set (x5 : Int).toNat (⟨(rd_T118 y446 x5).f0, (rd_T118 y446 x5).f1, (rd_T118 y446 x5).f2, wrap64 ((wrap64 ((wrap64 (x1 + 1)) + 1)) + 1)⟩ : S118)) (wrap64 ((wrap64 ((wrap64 ((wrap64 (x1 + 1)) + 1)) + 1)) + 1)) (wrap64 (x5 + 1)))))) else (none)) else (some (x1, x0))
def laws_markEventS.f (k : Nat) (l0 : List (S118)) (a1 : Int) : Option (Int × (List (S118))) := laws_markEventS.l0 k l0 a1 0
set_option maxHeartbeats 8000000 in
set_option maxRecDepth 100000 in
theorem laws_markEventS.calls (k : Nat) (P0_ : Nat → Prop) (u9000_ : Value) (l0 : List (S118)) (a1 : Int) (r1 : Int) (r2 : List (S118)) (w0 w : World) (hB : Below w0.heap.size w0 w) (ho0 : Kd.R k118 118 w w0.heap.size P0_ u9000_ l0) (h : laws_markEventS.f k l0 a1 = some (r1, r2)) :
  Calls Try.prog 44 #[u9000_, .int .i64 a1] w fun e w' => e = .returned (.int .i64 r1) ∧ Kd.R k118 118 w' w0.heap.size (fun k_ => (P0_ k_ ∨ w.heap.size ≤ k_)) u9000_ r2 ∧ Below w0.heap.size w0 w' ∧ Kept w w' (fun k_ => P0_ k_) := by
 have HO0 := sk_' (show Kd.R k118 118 w w0.heap.size (fun k_ => (P0_ k_ ∨ w.heap.size ≤ k_)) u9000_ l0 from xi_' ho0 (fun k_ hk => (.inl hk)))
 have HK := sk_' (Kept.refl w (fun k_ => P0_ k_))
 have HW0 := sk_' hB.size
 have HB := sk_' hB
 clear hB
 have H : (laws_markEventS.l0 k l0 a1 0) = some (r1, r2) := h
 clear h
 have H' := sk_' H
 clear H
 go_enter Try.func44, Try.ntmps44
 go_wp2
 go_loopg [1, 5] k (fun kq v1 v5 w' => ∃ (x0_1 : List (S118)) (x1_1 : Int) (x5_1 : Int), v1 = .int .i64 x1_1 ∧ v5 = .int .i64 x5_1 ∧ Aside0 (laws_markEventS.l0 kq x0_1 x1_1 x5_1 = some (r1, r2)) ∧ Aside0 (kq ≤ k) ∧ Aside0 (Kd.R k118 118 w' w0.heap.size (fun k_ => (P0_ k_ ∨ w.heap.size ≤ k_)) u9000_ x0_1) ∧ Aside0 (Kept w w' (fun k_ => P0_ k_)) ∧ Aside0 (Below w0.heap.size w0 w'))
 case atStart => exact ⟨(l0), (a1), (0), rfl, rfl, H', ⟨Nat.le_refl _⟩, ⟨rm HO0⟩, ⟨by repeat (first | (with_reducible first | exact HK.out | apply Kept.alloc | apply Kept.drewN | apply Kept.drew) | exact HK.out)⟩, ⟨bm HB⟩⟩
 case round =>
  clear H'
  try clear p2
  obtain ⟨x0_1, x1_1, x5_1, rfl, rfl, HA, HK1, HO_0, HK, HB⟩ := hrel
  cases gk with
  | zero => exact absurd HA.out (by simp [laws_markEventS.l0])
  | succ k1 =>
   have H := HA.out
   clear HA
   simp only [laws_markEventS.l0] at H
   by_cases c3 : x5_1 < (x0_1.length : Int)
   ·
    rw [if_pos c3] at H
    have c3b0 : decide (x5_1 < (x0_1.length : Int)) = true := decide_eq_true c3
    clear c3
    by_cases c4 : 0 ≤ x5_1
    ·
     rw [if_pos c4] at H
     have c4b0 : decide (0 ≤ x5_1) = true := decide_eq_true c4
     clear c4
     obtain ⟨y444, hy444⟩ : ∃ y_ : List (S118), y_ = (x0_1.set (x5_1 : Int).toNat (⟨x1_1, (rd_T118 x0_1 x5_1).f1, (rd_T118 x0_1 x5_1).f2, (rd_T118 x0_1 x5_1).f3⟩ : S118)) := ⟨_, rfl⟩
     replace H : ((some (y444.set (x5_1 : Int).toNat (⟨(rd_T118 y444 x5_1).f0, wrap64 (x1_1 + 1), (rd_T118 y444 x5_1).f2, (rd_T118 y444 x5_1).f3⟩ : S118) : List (S118))).bind fun y445 => ((some (y445.set (x5_1 : Int).toNat (⟨(rd_T118 y445 x5_1).f0, (rd_T118 y445 x5_1).f1, wrap64 ((wrap64 (x1_1 + 1)) + 1), (rd_T118 y445 x5_1).f3⟩ : S118) : List (S118))).bind fun y446 => (laws_markEventS.l0 k1 (y446.set (x5_1 : Int).toNat (⟨(rd_T118 y446 x5_1).f0, (rd_T118 y446 x5_1).f1, (rd_T118 y446 x5_1).f2, wrap64 ((wrap64 ((wrap64 (x1_1 + 1)) + 1)) + 1)⟩ : S118)) (wrap64 ((wrap64 ((wrap64 ((wrap64 (x1_1 + 1)) + 1)) + 1)) + 1)) (wrap64 (x5_1 + 1))))) = some (r1, r2) := by first | (rw [hy444]; with_reducible exact H) | (have H2_ := (Option.bind_some _ _).symm.trans H; rw [hy444]; with_reducible exact H2_) | (have H2_ := (Option.bind_some _ _).symm.trans H; with_reducible exact H2_) | with_reducible exact H | (rw [hy444]; exact H) | exact H
     have Ny444 := sk_' hy444
     clear hy444
     obtain ⟨y445, hy445⟩ : ∃ y_ : List (S118), y_ = (y444.set (x5_1 : Int).toNat (⟨(rd_T118 y444 x5_1).f0, wrap64 (x1_1 + 1), (rd_T118 y444 x5_1).f2, (rd_T118 y444 x5_1).f3⟩ : S118)) := ⟨_, rfl⟩
     replace H : ((some (y445.set (x5_1 : Int).toNat (⟨(rd_T118 y445 x5_1).f0, (rd_T118 y445 x5_1).f1, wrap64 ((wrap64 (x1_1 + 1)) + 1), (rd_T118 y445 x5_1).f3⟩ : S118) : List (S118))).bind fun y446 => (laws_markEventS.l0 k1 (y446.set (x5_1 : Int).toNat (⟨(rd_T118 y446 x5_1).f0, (rd_T118 y446 x5_1).f1, (rd_T118 y446 x5_1).f2, wrap64 ((wrap64 ((wrap64 (x1_1 + 1)) + 1)) + 1)⟩ : S118)) (wrap64 ((wrap64 ((wrap64 ((wrap64 (x1_1 + 1)) + 1)) + 1)) + 1)) (wrap64 (x5_1 + 1)))) = some (r1, r2) := by first | (rw [hy445]; with_reducible exact H) | (have H2_ := (Option.bind_some _ _).symm.trans H; rw [hy445]; with_reducible exact H2_) | (have H2_ := (Option.bind_some _ _).symm.trans H; with_reducible exact H2_) | with_reducible exact H | (rw [hy445]; exact H) | exact H
     have Ny445 := sk_' hy445
     clear hy445
     obtain ⟨y446, hy446⟩ : ∃ y_ : List (S118), y_ = (y445.set (x5_1 : Int).toNat (⟨(rd_T118 y445 x5_1).f0, (rd_T118 y445 x5_1).f1, wrap64 ((wrap64 (x1_1 + 1)) + 1), (rd_T118 y445 x5_1).f3⟩ : S118)) := ⟨_, rfl⟩
     replace H : (laws_markEventS.l0 k1 (y446.set (x5_1 : Int).toNat (⟨(rd_T118 y446 x5_1).f0, (rd_T118 y446 x5_1).f1, (rd_T118 y446 x5_1).f2, wrap64 ((wrap64 ((wrap64 (x1_1 + 1)) + 1)) + 1)⟩ : S118)) (wrap64 ((wrap64 ((wrap64 ((wrap64 (x1_1 + 1)) + 1)) + 1)) + 1)) (wrap64 (x5_1 + 1))) = some (r1, r2) := by first | (rw [hy446]; with_reducible exact H) | (have H2_ := (Option.bind_some _ _).symm.trans H; rw [hy446]; with_reducible exact H2_) | (have H2_ := (Option.bind_some _ _).symm.trans H; with_reducible exact H2_) | with_reducible exact H | (rw [hy446]; exact H) | exact H
     have Ny446 := sk_' hy446
     clear hy446
     obtain ⟨y447, hy447⟩ : ∃ y_ : List (S118), y_ = (y446.set (x5_1 : Int).toNat (⟨(rd_T118 y446 x5_1).f0, (rd_T118 y446 x5_1).f1, (rd_T118 y446 x5_1).f2, wrap64 ((wrap64 ((wrap64 (x1_1 + 1)) + 1)) + 1)⟩ : S118)) := ⟨_, rfl⟩
     replace H : (laws_markEventS.l0 k1 y447 (wrap64 ((wrap64 ((wrap64 ((wrap64 (x1_1 + 1)) + 1)) + 1)) + 1)) (wrap64 (x5_1 + 1))) = some (r1, r2) := by first | (rw [hy447]; with_reducible exact H) | (have H2_ := (Option.bind_some _ _).symm.trans H; rw [hy447]; with_reducible exact H2_) | (have H2_ := (Option.bind_some _ _).symm.trans H; with_reducible exact H2_) | with_reducible exact H | (rw [hy447]; exact H) | exact H
     have Ny447 := sk_' hy447
     clear hy447
     have H' := sk_' H
     clear H
     obtain ⟨Ao9, co9, eo9⟩ := Kd.R_slice HO_0.out
     subst eo9
     have p5 : 0 ≤ (x5_1 : Int) := od_' (by first | (with_reducible assumption) | assumption)
     have q5 : (x5_1 : Int) < ((x0_1.length : Int) : Int) := od_' (by first | (with_reducible assumption) | assumption)
     obtain ⟨go5, co5, eo5, gb5, gl5, cl5, HG5⟩ := Kd.R_form HO_0.out (by omega)
     (first | cases eo5 | (injection eo5 with ea_ en_ ec_; (first | subst ea_ | (injection ea_ with ea_; subst ea_)); subst ec_; clear en_))
     have GB5 := sk_' gb5
     have GG5 := sk_' HG5
     clear gb5 gl5 HG5
     have HMgo5 := sk_' (show (P0_ go5 ∨ w.heap.size ≤ go5) from (HO_0.out.1 _ rfl))
     obtain ⟨ce5, hcl5, hM5, hcc5, hfr5⟩ := Kd.R_elem HO_0.out z118 (x5_1 : Int) p5 q5
     obtain rfl := k118_openM hM5
     have hx5_0 : wr.cell? ⟨go5, (x5_1 : Int).toNat * 4, none⟩ = some (.int .i64 ((rd_T118 x0_1 x5_1).f0)) := hcc5 0 _ rfl
     have hx5_1 : wr.cell? ⟨go5, (x5_1 : Int).toNat * 4 + 1, none⟩ = some (.int .i64 ((rd_T118 x0_1 x5_1).f1)) := hcc5 1 _ rfl
     have hx5_2 : wr.cell? ⟨go5, (x5_1 : Int).toNat * 4 + 2, none⟩ = some (.int .i64 ((rd_T118 x0_1 x5_1).f2)) := hcc5 2 _ rfl
     have hx5_3 : wr.cell? ⟨go5, (x5_1 : Int).toNat * 4 + 3, none⟩ = some (.int .i64 ((rd_T118 x0_1 x5_1).f3)) := hcc5 3 _ rfl
     have hf5_0 : wr.frozen? ⟨go5, (x5_1 : Int).toNat * 4, none⟩ = false := hfr5 0
     have hf5_1 : wr.frozen? ⟨go5, (x5_1 : Int).toNat * 4 + 1, none⟩ = false := hfr5 1
     have hf5_2 : wr.frozen? ⟨go5, (x5_1 : Int).toNat * 4 + 2, none⟩ = false := hfr5 2
     have hf5_3 : wr.frozen? ⟨go5, (x5_1 : Int).toNat * 4 + 3, none⟩ = false := hfr5 3
     clear hcl5 hcc5 hfr5 hM5
     replace p5 := eq_true p5
     replace q5 := eq_true q5
     have HX10 := sk_' (show Kd.R k118 118 wr w0.heap.size (fun k_ => (P0_ k_ ∨ w.heap.size ≤ k_)) (.slice (some ⟨go5, 0, none⟩) x0_1.length co9) x0_1 from (rm HO_0))
     obtain ⟨ce10, hcl10, hM10, hcc10, hfr10⟩ := Kd.R_elem HX10.out z118 (x5_1 : Int) (od_' (by first | (with_reducible assumption) | assumption)) (by have h_ : (x5_1 : Int) < ((x0_1.length : Int) : Int) := od_' (by first | (with_reducible assumption) | assumption); first | exact h_ | (have e_ := (xr_' HO_0.out).1; omega) | simpa using h_)
     obtain rfl := k118_openM hM10
     have HP10 := Kd.R_seg HX10.out (x5_1 : Int) (od_' (by first | (with_reducible assumption) | assumption)) (by have h_ : (x5_1 : Int) < ((x0_1.length : Int) : Int) := od_' (by first | (with_reducible assumption) | assumption); first | exact h_ | (have e_ := (xr_' HO_0.out).1; omega) | simpa using h_) (seg := [.int .i64 x1_1]) (j := 0) hcl10 hcc10 (show 1 ≤ 4 from by decide) (x' := (⟨x1_1, (rd_T118 x0_1 x5_1).f1, (rd_T118 x0_1 x5_1).f2, (rd_T118 x0_1 x5_1).f3⟩ : S118)) (k118_mkM _ _ _ (⟨x1_1, (rd_T118 x0_1 x5_1).f1, (rd_T118 x0_1 x5_1).f2, (rd_T118 x0_1 x5_1).f3⟩ : S118) ) (fun _ hk => hk)
     have hx10_0 := hcc10 0 _ rfl
     (try simp only [show (k118).sz = 4 from rfl, Nat.mul_one, Nat.add_zero] at hx10_0)
     have hf10_0 := hfr10 0
     (try simp only [show (k118).sz = 4 from rfl, Nat.mul_one, Nat.add_zero] at hf10_0)
     clear hcl10 hcc10 hfr10 hM10
     go_wp2_with (first | ((with_reducible refine gate_store (t := 3) (p := 16) rfl ?_); refine store_event (t := 3) (p := 16) (v := ?vo_w11) (w1 := (wr.setCell ⟨go5, (x5_1 : Int).toNat * 4, none⟩ (.int .i64 x1_1))) ?hg ?ho ?hn ?hr ?_; (case ho => rfl); (case hg => rfl); (case hn => rfl); (case hr => first | (go_simp; done) | (go_simp; rfl)); intro w11 hw; have hg : wr.grownBy w11 (some go5) := (by rw [hw]; exact HP10.2); have hp_ : Kd.R k118 118 w11 w0.heap.size (fun k_ => (P0_ k_ ∨ w.heap.size ≤ k_)) (.slice (some ⟨go5, 0, none⟩) x0_1.length co9) y444 := (by rw [hw, Ny444.out]; exact HP10.1); clear HP10; have n0_ := sk_' (hp_); have n1_ := sk_' ((by rw [hw]; exact pt_' (HB.out) GB5.out : Below w0.heap.size w0 w11)); have n2_ := sk_' (Kept.of_grown (S := (fun k_ => P0_ k_)) hg (by repeat (first | (with_reducible first | exact HK.out | apply Kept.alloc | apply Kept.drewN | apply Kept.drew) | exact HK.out)) (fun k_ e_ => (HO_0.out.1 k_ e_))); clear HO_0; clear HB; clear HK; have HO_0 := n0_; have HB := n1_; have HK := n2_; clear n0_ n1_ n2_; clear hg hw hp_; have p6 : 0 ≤ (x5_1 : Int) := od_' (by first | (with_reducible assumption) | assumption); have q6 : (x5_1 : Int) < ((x0_1.length : Int) : Int) := od_' (by first | (with_reducible assumption) | assumption); obtain ⟨ce6, hcl6, hM6, hcc6, hfr6⟩ := Kd.R_elem HO_0.out z118 (x5_1 : Int) p6 q6; obtain rfl := k118_openM hM6; have hx6_0 : w11.cell? ⟨go5, (x5_1 : Int).toNat * 4, none⟩ = some (.int .i64 ((rd_T118 y444 x5_1).f0)) := hcc6 0 _ rfl; have hx6_1 : w11.cell? ⟨go5, (x5_1 : Int).toNat * 4 + 1, none⟩ = some (.int .i64 ((rd_T118 y444 x5_1).f1)) := hcc6 1 _ rfl; have hx6_2 : w11.cell? ⟨go5, (x5_1 : Int).toNat * 4 + 2, none⟩ = some (.int .i64 ((rd_T118 y444 x5_1).f2)) := hcc6 2 _ rfl; have hx6_3 : w11.cell? ⟨go5, (x5_1 : Int).toNat * 4 + 3, none⟩ = some (.int .i64 ((rd_T118 y444 x5_1).f3)) := hcc6 3 _ rfl; have hf6_0 : w11.frozen? ⟨go5, (x5_1 : Int).toNat * 4, none⟩ = false := hfr6 0; have hf6_1 : w11.frozen? ⟨go5, (x5_1 : Int).toNat * 4 + 1, none⟩ = false := hfr6 1; have hf6_2 : w11.frozen? ⟨go5, (x5_1 : Int).toNat * 4 + 2, none⟩ = false := hfr6 2; have hf6_3 : w11.frozen? ⟨go5, (x5_1 : Int).toNat * 4 + 3, none⟩ = false := hfr6 3; clear hcl6 hcc6 hfr6 hM6; replace p6 := eq_true p6; replace q6 := eq_true q6; have HX12 := sk_' (show Kd.R k118 118 w11 w0.heap.size (fun k_ => (P0_ k_ ∨ w.heap.size ≤ k_)) (.slice (some ⟨go5, 0, none⟩) x0_1.length co9) y444 from (rm HO_0)); obtain ⟨ce12, hcl12, hM12, hcc12, hfr12⟩ := Kd.R_elem HX12.out z118 (x5_1 : Int) (od_' (by first | (with_reducible assumption) | assumption)) (by have h_ : (x5_1 : Int) < ((x0_1.length : Int) : Int) := od_' (by first | (with_reducible assumption) | assumption); first | exact h_ | (have e_ := (xr_' HO_0.out).1; omega) | simpa using h_); obtain rfl := k118_openM hM12; have HP12 := Kd.R_seg HX12.out (x5_1 : Int) (od_' (by first | (with_reducible assumption) | assumption)) (by have h_ : (x5_1 : Int) < ((x0_1.length : Int) : Int) := od_' (by first | (with_reducible assumption) | assumption); first | exact h_ | (have e_ := (xr_' HO_0.out).1; omega) | simpa using h_) (seg := [.int .i64 (wrap64 (x1_1 + 1))]) (j := 1) hcl12 hcc12 (show 2 ≤ 4 from by decide) (x' := (⟨(rd_T118 y444 x5_1).f0, wrap64 (x1_1 + 1), (rd_T118 y444 x5_1).f2, (rd_T118 y444 x5_1).f3⟩ : S118)) (k118_mkM _ _ _ (⟨(rd_T118 y444 x5_1).f0, wrap64 (x1_1 + 1), (rd_T118 y444 x5_1).f2, (rd_T118 y444 x5_1).f3⟩ : S118) ) (fun _ hk => hk); have hx12_1 := hcc12 1 _ rfl; (try simp only [show (k118).sz = 4 from rfl, Nat.mul_one, Nat.add_zero] at hx12_1); have hf12_1 := hfr12 1; (try simp only [show (k118).sz = 4 from rfl, Nat.mul_one, Nat.add_zero] at hf12_1); clear hcl12 hcc12 hfr12 hM12) | ((with_reducible refine gate_store (t := 3) (p := 23) rfl ?_); refine store_event (t := 3) (p := 23) (v := ?vo_w13) (w1 := (w11.setCell ⟨go5, (x5_1 : Int).toNat * 4 + 1, none⟩ (.int .i64 (wrap64 (x1_1 + 1))))) ?hg ?ho ?hn ?hr ?_; (case ho => rfl); (case hg => rfl); (case hn => rfl); (case hr => first | (go_simp; done) | (go_simp; rfl)); intro w13 hw; have hg : w11.grownBy w13 (some go5) := (by rw [hw]; exact HP12.2); have hp_ : Kd.R k118 118 w13 w0.heap.size (fun k_ => (P0_ k_ ∨ w.heap.size ≤ k_)) (.slice (some ⟨go5, 0, none⟩) x0_1.length co9) y445 := (by rw [hw, Ny445.out]; exact HP12.1); clear HP12; have n0_ := sk_' (hp_); have n1_ := sk_' ((by rw [hw]; exact pt_' (HB.out) GB5.out : Below w0.heap.size w0 w13)); have n2_ := sk_' (Kept.of_grown (S := (fun k_ => P0_ k_)) hg (by repeat (first | (with_reducible first | exact HK.out | apply Kept.alloc | apply Kept.drewN | apply Kept.drew) | exact HK.out)) (fun k_ e_ => (HO_0.out.1 k_ e_))); clear HO_0; clear HB; clear HK; have HO_0 := n0_; have HB := n1_; have HK := n2_; clear n0_ n1_ n2_; clear hg hw hp_; have p7 : 0 ≤ (x5_1 : Int) := od_' (by first | (with_reducible assumption) | assumption); have q7 : (x5_1 : Int) < ((x0_1.length : Int) : Int) := od_' (by first | (with_reducible assumption) | assumption); obtain ⟨ce7, hcl7, hM7, hcc7, hfr7⟩ := Kd.R_elem HO_0.out z118 (x5_1 : Int) p7 q7; obtain rfl := k118_openM hM7; have hx7_0 : w13.cell? ⟨go5, (x5_1 : Int).toNat * 4, none⟩ = some (.int .i64 ((rd_T118 y445 x5_1).f0)) := hcc7 0 _ rfl; have hx7_1 : w13.cell? ⟨go5, (x5_1 : Int).toNat * 4 + 1, none⟩ = some (.int .i64 ((rd_T118 y445 x5_1).f1)) := hcc7 1 _ rfl; have hx7_2 : w13.cell? ⟨go5, (x5_1 : Int).toNat * 4 + 2, none⟩ = some (.int .i64 ((rd_T118 y445 x5_1).f2)) := hcc7 2 _ rfl; have hx7_3 : w13.cell? ⟨go5, (x5_1 : Int).toNat * 4 + 3, none⟩ = some (.int .i64 ((rd_T118 y445 x5_1).f3)) := hcc7 3 _ rfl; have hf7_0 : w13.frozen? ⟨go5, (x5_1 : Int).toNat * 4, none⟩ = false := hfr7 0; have hf7_1 : w13.frozen? ⟨go5, (x5_1 : Int).toNat * 4 + 1, none⟩ = false := hfr7 1; have hf7_2 : w13.frozen? ⟨go5, (x5_1 : Int).toNat * 4 + 2, none⟩ = false := hfr7 2; have hf7_3 : w13.frozen? ⟨go5, (x5_1 : Int).toNat * 4 + 3, none⟩ = false := hfr7 3; clear hcl7 hcc7 hfr7 hM7; replace p7 := eq_true p7; replace q7 := eq_true q7; have HX14 := sk_' (show Kd.R k118 118 w13 w0.heap.size (fun k_ => (P0_ k_ ∨ w.heap.size ≤ k_)) (.slice (some ⟨go5, 0, none⟩) x0_1.length co9) y445 from (rm HO_0)); obtain ⟨ce14, hcl14, hM14, hcc14, hfr14⟩ := Kd.R_elem HX14.out z118 (x5_1 : Int) (od_' (by first | (with_reducible assumption) | assumption)) (by have h_ : (x5_1 : Int) < ((x0_1.length : Int) : Int) := od_' (by first | (with_reducible assumption) | assumption); first | exact h_ | (have e_ := (xr_' HO_0.out).1; omega) | simpa using h_); obtain rfl := k118_openM hM14; have HP14 := Kd.R_seg HX14.out (x5_1 : Int) (od_' (by first | (with_reducible assumption) | assumption)) (by have h_ : (x5_1 : Int) < ((x0_1.length : Int) : Int) := od_' (by first | (with_reducible assumption) | assumption); first | exact h_ | (have e_ := (xr_' HO_0.out).1; omega) | simpa using h_) (seg := [.int .i64 (wrap64 ((wrap64 (x1_1 + 1)) + 1))]) (j := 2) hcl14 hcc14 (show 3 ≤ 4 from by decide) (x' := (⟨(rd_T118 y445 x5_1).f0, (rd_T118 y445 x5_1).f1, wrap64 ((wrap64 (x1_1 + 1)) + 1), (rd_T118 y445 x5_1).f3⟩ : S118)) (k118_mkM _ _ _ (⟨(rd_T118 y445 x5_1).f0, (rd_T118 y445 x5_1).f1, wrap64 ((wrap64 (x1_1 + 1)) + 1), (rd_T118 y445 x5_1).f3⟩ : S118) ) (fun _ hk => hk); have hx14_2 := hcc14 2 _ rfl; (try simp only [show (k118).sz = 4 from rfl, Nat.mul_one, Nat.add_zero] at hx14_2); have hf14_2 := hfr14 2; (try simp only [show (k118).sz = 4 from rfl, Nat.mul_one, Nat.add_zero] at hf14_2); clear hcl14 hcc14 hfr14 hM14) | ((with_reducible refine gate_store (t := 3) (p := 30) rfl ?_); refine store_event (t := 3) (p := 30) (v := ?vo_w15) (w1 := (w13.setCell ⟨go5, (x5_1 : Int).toNat * 4 + 2, none⟩ (.int .i64 (wrap64 ((wrap64 (x1_1 + 1)) + 1))))) ?hg ?ho ?hn ?hr ?_; (case ho => rfl); (case hg => rfl); (case hn => rfl); (case hr => first | (go_simp; done) | (go_simp; rfl)); intro w15 hw; have hg : w13.grownBy w15 (some go5) := (by rw [hw]; exact HP14.2); have hp_ : Kd.R k118 118 w15 w0.heap.size (fun k_ => (P0_ k_ ∨ w.heap.size ≤ k_)) (.slice (some ⟨go5, 0, none⟩) x0_1.length co9) y446 := (by rw [hw, Ny446.out]; exact HP14.1); clear HP14; have n0_ := sk_' (hp_); have n1_ := sk_' ((by rw [hw]; exact pt_' (HB.out) GB5.out : Below w0.heap.size w0 w15)); have n2_ := sk_' (Kept.of_grown (S := (fun k_ => P0_ k_)) hg (by repeat (first | (with_reducible first | exact HK.out | apply Kept.alloc | apply Kept.drewN | apply Kept.drew) | exact HK.out)) (fun k_ e_ => (HO_0.out.1 k_ e_))); clear HO_0; clear HB; clear HK; have HO_0 := n0_; have HB := n1_; have HK := n2_; clear n0_ n1_ n2_; clear hg hw hp_; have p8 : 0 ≤ (x5_1 : Int) := od_' (by first | (with_reducible assumption) | assumption); have q8 : (x5_1 : Int) < ((x0_1.length : Int) : Int) := od_' (by first | (with_reducible assumption) | assumption); obtain ⟨ce8, hcl8, hM8, hcc8, hfr8⟩ := Kd.R_elem HO_0.out z118 (x5_1 : Int) p8 q8; obtain rfl := k118_openM hM8; have hx8_0 : w15.cell? ⟨go5, (x5_1 : Int).toNat * 4, none⟩ = some (.int .i64 ((rd_T118 y446 x5_1).f0)) := hcc8 0 _ rfl; have hx8_1 : w15.cell? ⟨go5, (x5_1 : Int).toNat * 4 + 1, none⟩ = some (.int .i64 ((rd_T118 y446 x5_1).f1)) := hcc8 1 _ rfl; have hx8_2 : w15.cell? ⟨go5, (x5_1 : Int).toNat * 4 + 2, none⟩ = some (.int .i64 ((rd_T118 y446 x5_1).f2)) := hcc8 2 _ rfl; have hx8_3 : w15.cell? ⟨go5, (x5_1 : Int).toNat * 4 + 3, none⟩ = some (.int .i64 ((rd_T118 y446 x5_1).f3)) := hcc8 3 _ rfl; have hf8_0 : w15.frozen? ⟨go5, (x5_1 : Int).toNat * 4, none⟩ = false := hfr8 0; have hf8_1 : w15.frozen? ⟨go5, (x5_1 : Int).toNat * 4 + 1, none⟩ = false := hfr8 1; have hf8_2 : w15.frozen? ⟨go5, (x5_1 : Int).toNat * 4 + 2, none⟩ = false := hfr8 2; have hf8_3 : w15.frozen? ⟨go5, (x5_1 : Int).toNat * 4 + 3, none⟩ = false := hfr8 3; clear hcl8 hcc8 hfr8 hM8; replace p8 := eq_true p8; replace q8 := eq_true q8; have HX16 := sk_' (show Kd.R k118 118 w15 w0.heap.size (fun k_ => (P0_ k_ ∨ w.heap.size ≤ k_)) (.slice (some ⟨go5, 0, none⟩) x0_1.length co9) y446 from (rm HO_0)); obtain ⟨ce16, hcl16, hM16, hcc16, hfr16⟩ := Kd.R_elem HX16.out z118 (x5_1 : Int) (od_' (by first | (with_reducible assumption) | assumption)) (by have h_ : (x5_1 : Int) < ((x0_1.length : Int) : Int) := od_' (by first | (with_reducible assumption) | assumption); first | exact h_ | (have e_ := (xr_' HO_0.out).1; omega) | simpa using h_); obtain rfl := k118_openM hM16; have HP16 := Kd.R_seg HX16.out (x5_1 : Int) (od_' (by first | (with_reducible assumption) | assumption)) (by have h_ : (x5_1 : Int) < ((x0_1.length : Int) : Int) := od_' (by first | (with_reducible assumption) | assumption); first | exact h_ | (have e_ := (xr_' HO_0.out).1; omega) | simpa using h_) (seg := [.int .i64 (wrap64 ((wrap64 ((wrap64 (x1_1 + 1)) + 1)) + 1))]) (j := 3) hcl16 hcc16 (show 4 ≤ 4 from by decide) (x' := (⟨(rd_T118 y446 x5_1).f0, (rd_T118 y446 x5_1).f1, (rd_T118 y446 x5_1).f2, wrap64 ((wrap64 ((wrap64 (x1_1 + 1)) + 1)) + 1)⟩ : S118)) (k118_mkM _ _ _ (⟨(rd_T118 y446 x5_1).f0, (rd_T118 y446 x5_1).f1, (rd_T118 y446 x5_1).f2, wrap64 ((wrap64 ((wrap64 (x1_1 + 1)) + 1)) + 1)⟩ : S118) ) (fun _ hk => hk); have hx16_3 := hcc16 3 _ rfl; (try simp only [show (k118).sz = 4 from rfl, Nat.mul_one, Nat.add_zero] at hx16_3); have hf16_3 := hfr16 3; (try simp only [show (k118).sz = 4 from rfl, Nat.mul_one, Nat.add_zero] at hf16_3); clear hcl16 hcc16 hfr16 hM16) | ((with_reducible refine gate_store (t := 3) (p := 37) rfl ?_); refine store_event (t := 3) (p := 37) (v := ?vo_w17) (w1 := (w15.setCell ⟨go5, (x5_1 : Int).toNat * 4 + 3, none⟩ (.int .i64 (wrap64 ((wrap64 ((wrap64 (x1_1 + 1)) + 1)) + 1))))) ?hg ?ho ?hn ?hr ?_; (case ho => rfl); (case hg => rfl); (case hn => rfl); (case hr => first | (go_simp; done) | (go_simp; rfl)); intro w17 hw; have hg : w15.grownBy w17 (some go5) := (by rw [hw]; exact HP16.2); have hp_ : Kd.R k118 118 w17 w0.heap.size (fun k_ => (P0_ k_ ∨ w.heap.size ≤ k_)) (.slice (some ⟨go5, 0, none⟩) x0_1.length co9) y447 := (by rw [hw, Ny447.out]; exact HP16.1); clear HP16; have n0_ := sk_' (hp_); have n1_ := sk_' ((by rw [hw]; exact pt_' (HB.out) GB5.out : Below w0.heap.size w0 w17)); have n2_ := sk_' (Kept.of_grown (S := (fun k_ => P0_ k_)) hg (by repeat (first | (with_reducible first | exact HK.out | apply Kept.alloc | apply Kept.drewN | apply Kept.drew) | exact HK.out)) (fun k_ e_ => (HO_0.out.1 k_ e_))); clear HO_0; clear HB; clear HK; have HO_0 := n0_; have HB := n1_; have HK := n2_; clear n0_ n1_ n2_; clear hg hw hp_))
     go_roundg k1
     case measure => have := HK1.out; omega
     case rel => exact ⟨(y447), (wrap64 ((wrap64 ((wrap64 ((wrap64 (x1_1 + 1)) + 1)) + 1)) + 1)), (wrap64 (x5_1 + 1)), rfl, rfl, H', ⟨by have := HK1.out; omega⟩, ⟨rm HO_0⟩, ⟨by repeat (first | (with_reducible first | exact HK.out | apply Kept.alloc | apply Kept.drewN | apply Kept.drew) | exact HK.out)⟩, ⟨bm HB⟩⟩
    rw [if_neg c4] at H
    exact absurd H (by simp)
   rw [if_neg c3] at H
   have c3b0 : decide (x5_1 < (x0_1.length : Int)) = false := decide_eq_false c3
   clear c3
   simp only [Option.some.injEq, Prod.mk.injEq] at H
   obtain ⟨rfl, rfl⟩ := H
   obtain ⟨Ao18, co18, eo18⟩ := Kd.R_slice HO_0.out
   subst eo18
   go_wp2
   go_ret
   exact ⟨rfl, rm HO_0, bm HB, by repeat (first | (with_reducible first | exact HK.out | apply Kept.alloc | apply Kept.drewN | apply Kept.drew) | exact HK.out)⟩
end Go.Proofs.Ytiophiipmgpaeaa.F

namespace Go.Proofs.Ytiophiipmgpaeaa.F
open Go.RowKit Go.Proofs.YtiophiipmgpaeaaW.PrintWords Go.Proofs.YtiophiipmgpaeaaW.PrintLast Go.Proofs.YtiophiipmgpaeaaW.PrintMore
attribute [local go_sem] max2_int min2_int max_two min_two max_three min_three max_four min_four
set_option linter.unusedVariables false
set_option linter.unusedSimpArgs false
def laws_szEventS.f (l0 : List (S126)) (a1 : Int) : Option (Int) := if (wrap64 (a1 - (l0.length : Int))) < 0 then (some (-1)) else (some (wrap64 (a1 - (l0.length : Int))))
set_option maxHeartbeats 8000000 in
set_option maxRecDepth 100000 in
theorem laws_szEventS.calls (A0 : Option Addr) (c0 : Nat) (l0 : List (S126)) (a1 : Int) (r : Int) (w : World) (hr0 : Kd.C k126 w A0 l0.length l0) (hc0 : l0.length ≤ c0) (h : laws_szEventS.f l0 a1 = some r) :
  Calls Try.prog 46 #[.slice A0 l0.length c0, .int .i64 a1] w fun e w' => e = .returned (.int .i64 r) ∧ Drawn0 w w' := by
 have HR0 := sk_' hr0
 have HC0 := sk_' hc0
 clear hr0 hc0
 have H : (if (wrap64 (a1 - (l0.length : Int))) < 0 then (some (-1)) else (some (wrap64 (a1 - (l0.length : Int))))) = some r := h
 clear h
 by_cases c3 : (wrap64 (a1 - (l0.length : Int))) < 0
 ·
  rw [if_pos c3] at H
  have c3b0 : decide ((wrap64 (a1 - (l0.length : Int))) < 0) = true := decide_eq_true c3
  clear c3
  obtain rfl := Option.some.inj H
  go_enter Try.func46, Try.ntmps46
  go_wp2
  go_ret
  exact ⟨by first | rfl | (simp; done) | (simp [*]; done), by repeat (first | exact Drawn0.refl _ | apply Drawn0.step)⟩
 rw [if_neg c3] at H
 have c3b0 : decide ((wrap64 (a1 - (l0.length : Int))) < 0) = false := decide_eq_false c3
 clear c3
 obtain rfl := Option.some.inj H
 go_enter Try.func46, Try.ntmps46
 go_wp2
 go_ret
 exact ⟨by first | rfl | (simp; done) | (simp [*]; done), by repeat (first | exact Drawn0.refl _ | apply Drawn0.step)⟩
end Go.Proofs.Ytiophiipmgpaeaa.F

namespace Go.Proofs.Ytiophiipmgpaeaa.F
open Go.RowKit Go.Proofs.YtiophiipmgpaeaaW.PrintWords Go.Proofs.YtiophiipmgpaeaaW.PrintLast Go.Proofs.YtiophiipmgpaeaaW.PrintMore
attribute [local go_sem] max2_int min2_int max_two min_two max_three min_three max_four min_four
set_option linter.unusedVariables false
set_option linter.unusedSimpArgs false
def laws_toEvent.f (a0_0 : Int) (a0_1 : Int) (a0_2 : Int) (a0_3 : Int) : Option (Int × Int × Int × Int) := some (a0_0, a0_1, a0_2, a0_3)
set_option maxHeartbeats 8000000 in
set_option maxRecDepth 100000 in
theorem laws_toEvent.calls (a0_0 : Int) (a0_1 : Int) (a0_2 : Int) (a0_3 : Int) (r1 : Int) (r2 : Int) (r3 : Int) (r4 : Int) (w : World) (h : laws_toEvent.f a0_0 a0_1 a0_2 a0_3 = some (r1, r2, r3, r4)) :
  Calls Try.prog 96 #[.agg #[.int .i64 a0_0, .int .i64 a0_1, .int .i64 a0_2, .int .i64 a0_3]] w fun e w' => e = .returned (.agg #[.int .i64 r1, .int .i64 r2, .int .i64 r3, .int .i64 r4]) ∧ Below w.heap.size w w' := by
 have hu126 := Try.underlying126
 have hu118 := Try.underlying118
 have HB := sk_' (Below.refl w.heap.size w)
 have H : (some (a0_0, a0_1, a0_2, a0_3)) = some (r1, r2, r3, r4) := h
 clear h
 simp only [Option.some.injEq, Prod.mk.injEq] at H
 obtain ⟨rfl, rfl, rfl, rfl⟩ := H
 go_enter Try.func96, Try.ntmps96
 go_wp2_with (first | ((with_reducible refine gate_dst (N := 1) rfl ?_); refine box_event ?hg (N := 1) ?hd (cs := #[.int .i64 a0_0, .int .i64 a0_1, .int .i64 a0_2, .int .i64 a0_3]) (t := 126) ?hr ?_; (case hd => rfl); (case hg => rfl); (case hr => first | (go_simp; done) | (go_simp; rfl)); intro gb543 hg w2 hbox hb; have n0_ := sk_' (pp_' (bm HB) hb); have n1_ := sk_' (hbox); have n2_ := sk_' ((by rw [hg]; exact (ps_' (bm HB)) : w.heap.size ≤ gb543)); have n3_ := sk_' ((by rw [hg]; exact (ps_' (bm HB)) : w.heap.size ≤ gb543)); clear HB; have HB := n0_; have BK543 := n1_; have GW543 := n2_; have GE543 := n3_; clear n0_ n1_ n2_ n3_; clear hb hbox hg) | ((with_reducible refine gate_dst (N := 2) rfl ?_); refine box_event ?hg (N := 2) ?hd (cs := #[.int .i64 0, .int .i64 0, .int .i64 0, .int .i64 0]) (t := 118) ?hr ?_; (case hd => rfl); (case hg => rfl); (case hr => first | (go_simp; done) | (go_simp; rfl)); intro gb544 hg w3 hbox hb; have n0_ := sk_' (blk_below (g := gb543) (o := .cells #[.int .i64 a0_0, .int .i64 a0_1, .int .i64 a0_2, .int .i64 a0_3] 126 (0, 0)) (km BK543) hb); have n1_ := sk_' (pp_' (bm HB) hb); have n2_ := sk_' (hbox); have n3_ := sk_' ((by rw [hg]; exact (ps_' (bm HB)) : w.heap.size ≤ gb544)); have n4_ := sk_' ((by rw [hg]; exact (ps_' (bm HB)) : w.heap.size ≤ gb544)); have n5_ := sk_' ((by rw [hg]; exact Nat.ne_of_lt (blk_lt (g := gb543) (o := .cells #[.int .i64 a0_0, .int .i64 a0_1, .int .i64 a0_2, .int .i64 a0_3] 126 (0, 0)) (km BK543)) : gb543 ≠ gb544)); have n6_ := sk_' ((by rw [hg]; exact Nat.ne_of_gt (blk_lt (g := gb543) (o := .cells #[.int .i64 a0_0, .int .i64 a0_1, .int .i64 a0_2, .int .i64 a0_3] 126 (0, 0)) (km BK543)) : gb544 ≠ gb543)); clear BK543; clear HB; have BK543 := n0_; have HB := n1_; have BK544 := n2_; have GW544 := n3_; have GE544 := n4_; have NB543_544 := n5_; have NB544_543 := n6_; clear n0_ n1_ n2_ n3_ n4_ n5_ n6_; clear hb hbox hg) | ((with_reducible refine gate_dst (N := 3) rfl ?_); refine box_event ?hg (N := 3) ?hd (cs := #[.int .i64 0, .int .i64 0, .int .i64 0, .int .i64 0]) (t := 118) ?hr ?_; (case hd => rfl); (case hg => rfl); (case hr => first | (go_simp; done) | (go_simp; rfl)); intro gb545 hg w4 hbox hb; have n0_ := sk_' (blk_below (g := gb543) (o := .cells #[.int .i64 a0_0, .int .i64 a0_1, .int .i64 a0_2, .int .i64 a0_3] 126 (0, 0)) (km BK543) hb); have n1_ := sk_' (blk_below (g := gb544) (o := .cells #[.int .i64 0, .int .i64 0, .int .i64 0, .int .i64 0] 118 (0, 0)) (km BK544) hb); have n2_ := sk_' (pp_' (bm HB) hb); have n3_ := sk_' (hbox); have n4_ := sk_' ((by rw [hg]; exact (ps_' (bm HB)) : w.heap.size ≤ gb545)); have n5_ := sk_' ((by rw [hg]; exact (ps_' (bm HB)) : w.heap.size ≤ gb545)); have n6_ := sk_' ((by rw [hg]; exact Nat.ne_of_lt (blk_lt (g := gb543) (o := .cells #[.int .i64 a0_0, .int .i64 a0_1, .int .i64 a0_2, .int .i64 a0_3] 126 (0, 0)) (km BK543)) : gb543 ≠ gb545)); have n7_ := sk_' ((by rw [hg]; exact Nat.ne_of_gt (blk_lt (g := gb543) (o := .cells #[.int .i64 a0_0, .int .i64 a0_1, .int .i64 a0_2, .int .i64 a0_3] 126 (0, 0)) (km BK543)) : gb545 ≠ gb543)); have n8_ := sk_' ((by rw [hg]; exact Nat.ne_of_lt (blk_lt (g := gb544) (o := .cells #[.int .i64 0, .int .i64 0, .int .i64 0, .int .i64 0] 118 (0, 0)) (km BK544)) : gb544 ≠ gb545)); have n9_ := sk_' ((by rw [hg]; exact Nat.ne_of_gt (blk_lt (g := gb544) (o := .cells #[.int .i64 0, .int .i64 0, .int .i64 0, .int .i64 0] 118 (0, 0)) (km BK544)) : gb545 ≠ gb544)); clear BK543; clear BK544; clear HB; have BK543 := n0_; have BK544 := n1_; have HB := n2_; have BK545 := n3_; have GW545 := n4_; have GE545 := n5_; have NB543_545 := n6_; have NB545_543 := n7_; have NB544_545 := n8_; have NB545_544 := n9_; clear n0_ n1_ n2_ n3_ n4_ n5_ n6_ n7_ n8_ n9_; clear hb hbox hg; have hnb5 := NB543_544.out; have hnc5 := NB544_543.out; have hnb6 := NB543_545.out; have hnc6 := NB545_543.out; have hcz7_0 : w4.cell? ⟨gb543, 0, none⟩ = some (.int .i64 a0_0) := (kc_' BK543.out 0).trans rfl; have hcz7_1 : w4.cell? ⟨gb543, 1, none⟩ = some (.int .i64 a0_1) := (kc_' BK543.out 1).trans rfl; have hcz7_2 : w4.cell? ⟨gb543, 2, none⟩ = some (.int .i64 a0_2) := (kc_' BK543.out 2).trans rfl; have hcz7_3 : w4.cell? ⟨gb543, 3, none⟩ = some (.int .i64 a0_3) := (kc_' BK543.out 3).trans rfl; have hfz7_0 := kf_' BK543.out 0; have hfz7_1 := kf_' BK543.out 1; have hfz7_2 := kf_' BK543.out 2; have hfz7_3 := kf_' BK543.out 3; have hnb8 := NB545_544.out; have hnc8 := NB544_545.out; have hcz9_0 : w4.cell? ⟨gb545, 0, none⟩ = some (.int .i64 0) := (kc_' BK545.out 0).trans rfl; have hcz9_1 : w4.cell? ⟨gb545, 1, none⟩ = some (.int .i64 0) := (kc_' BK545.out 1).trans rfl; have hcz9_2 : w4.cell? ⟨gb545, 2, none⟩ = some (.int .i64 0) := (kc_' BK545.out 2).trans rfl; have hcz9_3 : w4.cell? ⟨gb545, 3, none⟩ = some (.int .i64 0) := (kc_' BK545.out 3).trans rfl; have hfz9_0 := kf_' BK545.out 0; have hfz9_1 := kf_' BK545.out 1; have hfz9_2 := kf_' BK545.out 2; have hfz9_3 := kf_' BK545.out 3; have hcz10_0 : w4.cell? ⟨gb544, 0, none⟩ = some (.int .i64 0) := (kc_' BK544.out 0).trans rfl; have hcz10_1 : w4.cell? ⟨gb544, 1, none⟩ = some (.int .i64 0) := (kc_' BK544.out 1).trans rfl; have hcz10_2 : w4.cell? ⟨gb544, 2, none⟩ = some (.int .i64 0) := (kc_' BK544.out 2).trans rfl; have hcz10_3 : w4.cell? ⟨gb544, 3, none⟩ = some (.int .i64 0) := (kc_' BK544.out 3).trans rfl; have hfz10_0 := kf_' BK544.out 0; have hfz10_1 := kf_' BK544.out 1; have hfz10_2 := kf_' BK544.out 2; have hfz10_3 := kf_' BK544.out 3))
 refine bodyPost_ret (results_cell_row rfl _ _ gb544 118 #[.int .i64 a0_0, .int .i64 a0_1, .int .i64 a0_2, .int .i64 a0_3] (0, 0) _ rfl (by (with_reducible repeat (first | refine kn_' ?_ _ | refine kd_' ?_ | refine ka_' ?_ _)); refine blk_put (cs := #[.int .i64 a0_0, .int .i64 a0_1, .int .i64 a0_2, .int .i64 0]) ?_ 3 _ rfl; (with_reducible repeat (first | refine kn_' ?_ _ | refine kd_' ?_ | refine ka_' ?_ _)); refine blk_put (cs := #[.int .i64 a0_0, .int .i64 a0_1, .int .i64 0, .int .i64 0]) ?_ 2 _ rfl; (with_reducible repeat (first | refine kn_' ?_ _ | refine kd_' ?_ | refine ka_' ?_ _)); refine blk_put (cs := #[.int .i64 a0_0, .int .i64 0, .int .i64 0, .int .i64 0]) ?_ 1 _ rfl; (with_reducible repeat (first | refine kn_' ?_ _ | refine kd_' ?_ | refine ka_' ?_ _)); refine blk_put (cs := #[.int .i64 0, .int .i64 0, .int .i64 0, .int .i64 0]) ?_ 0 _ rfl; (with_reducible repeat (first | refine kn_' ?_ _ | refine kd_' ?_ | refine ka_' ?_ _)); refine blk_far ?_ NB544_545.out _; (with_reducible repeat (first | refine kn_' ?_ _ | refine kd_' ?_ | refine ka_' ?_ _)); refine blk_far ?_ NB544_545.out _; (with_reducible repeat (first | refine kn_' ?_ _ | refine kd_' ?_ | refine ka_' ?_ _)); refine blk_far ?_ NB544_545.out _; (with_reducible repeat (first | refine kn_' ?_ _ | refine kd_' ?_ | refine ka_' ?_ _)); refine blk_far ?_ NB544_545.out _; (with_reducible repeat (first | refine kn_' ?_ _ | refine kd_' ?_ | refine ka_' ?_ _)); exact BK544.out) Try.underlying118 rfl (by kernel_rfl)) rfl ?_
 exact ⟨by first | rfl | (simp [errW_none, errW_some] <;> rfl) | (simp [*, errW_none, errW_some] <;> rfl), by repeat (first | (with_reducible first | exact HB.out | apply pa_' | apply pn_' | apply pd_' | refine pt_' ?_ GE543.out | refine pt_' ?_ GE544.out | refine pt_' ?_ GE545.out) | exact HB.out)⟩
end Go.Proofs.Ytiophiipmgpaeaa.F

namespace Go.Proofs.Ytiophiipmgpaeaa.F
open Go.RowKit Go.Proofs.YtiophiipmgpaeaaW.PrintWords Go.Proofs.YtiophiipmgpaeaaW.PrintLast Go.Proofs.YtiophiipmgpaeaaW.PrintMore
attribute [local go_sem] max2_int min2_int max_two min_two max_three min_three max_four min_four
set_option linter.unusedVariables false
set_option linter.unusedSimpArgs false
def laws_toEventS.l0 : Nat → List (S126) → List (S118) → Int → Option ((List (S118)))
 | 0, _, _, _ => none
 | k + 1, x0, x3, x4 => if x4 < (x0.length : Int) then (if 0 ≤ x4 then ((laws_toEvent.f ((rd_T126 x0 x4).f0) ((rd_T126 x0 x4).f1) ((rd_T126 x0 x4).f2) ((rd_T126 x0 x4).f3)).bind fun bt550 => (if x4 < (x3.length : Int) then (laws_toEventS.l0 k x0 (x3.set (x4 : Int).toNat (⟨bt550.1, bt550.2.1, bt550.2.2.1, bt550.2.2.2⟩ : S118)) (wrap64 (x4 + 1))) else (none))) else (none)) else (some x3)
def laws_toEventS.f (k : Nat) (l0 : List (S126)) : Option ((List (S118))) := if 0 ≤ (l0.length : Int) then (if ((l0.length : Int) : Int).toNat ≤ 8796093022208 then (laws_toEventS.l0 k l0 (List.replicate ((l0.length : Int) : Int).toNat z118) 0) else (none)) else (none)
set_option maxHeartbeats 8000000 in
set_option maxRecDepth 100000 in
theorem laws_toEventS.calls (k : Nat) (A0 : Option Addr) (c0 : Nat) (l0 : List (S126)) (r : List (S118)) (w : World) (hr0 : Kd.C k126 w A0 l0.length l0) (hc0 : l0.length ≤ c0) (h : laws_toEventS.f k l0 = some r) :
  Calls Try.prog 48 #[.slice A0 l0.length c0] w fun e w' => ∃ v0_ : Value, e = .returned (v0_) ∧ Kd.R k118 118 w' w.heap.size (fun _ => True) v0_ r ∧ Below w.heap.size w w' := by
 have hu126 := Try.underlying126
 have hu118 := Try.underlying118
 have HR0 := sk_' hr0
 have HC0 := sk_' hc0
 clear hr0 hc0
 have HB := sk_' (Below.refl w.heap.size w)
 have H : (if 0 ≤ (l0.length : Int) then (if ((l0.length : Int) : Int).toNat ≤ 8796093022208 then (laws_toEventS.l0 k l0 (List.replicate ((l0.length : Int) : Int).toNat z118) 0) else (none)) else (none)) = some r := h
 clear h
 by_cases c2 : 0 ≤ (l0.length : Int)
 ·
  rw [if_pos c2] at H
  have c2b0 := eq_true c2
  have c2b1 : decide (0 ≤ (l0.length : Int)) = true := decide_eq_true c2
  clear c2
  by_cases c3 : ((l0.length : Int) : Int).toNat ≤ 8796093022208
  ·
   rw [if_pos c3] at H
   have c3b0 := eq_true c3
   have c3b1 : decide (((l0.length : Int) : Int).toNat ≤ 8796093022208) = true := decide_eq_true c3
   clear c3
   obtain ⟨y546, hy546⟩ : ∃ y_ : List (S118), y_ = (List.replicate ((l0.length : Int) : Int).toNat z118) := ⟨_, rfl⟩
   replace H : (laws_toEventS.l0 k l0 y546 0) = some r := by first | (rw [hy546]; with_reducible exact H) | (have H2_ := (Option.bind_some _ _).symm.trans H; rw [hy546]; with_reducible exact H2_) | (have H2_ := (Option.bind_some _ _).symm.trans H; with_reducible exact H2_) | with_reducible exact H | (rw [hy546]; exact H) | exact H
   have Ny546 := sk_' hy546
   clear hy546
   have H' := sk_' H
   clear H
   go_enter Try.func48, Try.ntmps48
   go_wp2_with (first | ((with_reducible refine gate_dst (N := 7) rfl ?_); refine Kd.R_make k118 _ 118 rfl (N := 7) rfl 48 _ _ rfl (l0.length : Int) rfl rfl Try.underlying48 (.agg #[(.int .i64 0), (.int .i64 0), (.int .i64 0), (.int .i64 0)]) 32 info118 rfl (by decide) (by omega) z118 (ok := fun _ => True) (okp := fun _ => True) (k118_mkM _ _ _ z118 ) (fun _ hk => hk) trivial (od_' (by first | (with_reducible assumption) | assumption)) (Nat.le_trans (Nat.mul_le_mul_right _ (od_' (by first | (with_reducible assumption) | assumption) : (l0.length : Int).toNat ≤ 8796093022208)) (by omega)) (Below.refl _ _) (Nat.le_refl _) ?_; intro v547 w4 ho5 hb hg_ hnew_; clear hg_ hnew_; (first | rw [← Ny546.out] at ho5 | (simp only [Int.reduceToNat] at ho5; rw [← Ny546.out] at ho5)); have n0_ := sk_' (Kd.R_lower ho5 (ps_' (bm HB))); have n1_ := sk_' (pp_' (bm HB) hb); clear HB; have HO548 := n0_; have HB := n1_; clear n0_ n1_; clear hb ho5))
   go_loopg [4] k (fun kq v4 w' => ∃ (x3_1 : List (S118)) (x4_1 : Int), v4 = .int .i64 x4_1 ∧ Aside0 (laws_toEventS.l0 kq l0 x3_1 x4_1 = some r) ∧ Aside0 (kq ≤ k) ∧ Aside0 (Kd.R k118 118 w' w.heap.size (fun _ => True) v547 x3_1) ∧ Aside0 (Below w.heap.size w w'))
   case atStart => exact ⟨(y546), (0), rfl, H', ⟨Nat.le_refl _⟩, ⟨rm HO548⟩, ⟨bm HB⟩⟩
   case round =>
    clear H'
    try clear c2
    try clear c2b0
    try clear c2b1
    try clear p2
    try clear c3
    try clear c3b0
    try clear c3b1
    try clear c4
    obtain ⟨x3_1, x4_1, rfl, HA, HK1, HO_3, HB⟩ := hrel
    cases gk with
    | zero => exact absurd HA.out (by simp [laws_toEventS.l0])
    | succ k1 =>
     have H := HA.out
     clear HA
     simp only [laws_toEventS.l0] at H
     by_cases c6 : x4_1 < (l0.length : Int)
     ·
      rw [if_pos c6] at H
      have c6b0 : decide (x4_1 < (l0.length : Int)) = true := decide_eq_true c6
      clear c6
      by_cases c7 : 0 ≤ x4_1
      ·
       rw [if_pos c7] at H
       have c7b0 : decide (0 ≤ x4_1) = true := decide_eq_true c7
       clear c7
       replace H := bs_' H
       obtain ⟨⟨t550, t551, t552, t553⟩, A80, H⟩ := H
       try dsimp only at H
       have A8 := sk_' A80
       clear A80
       by_cases c9 : x4_1 < (x3_1.length : Int)
       ·
        rw [if_pos c9] at H
        have c9b0 : decide (x4_1 < (x3_1.length : Int)) = true := decide_eq_true c9
        clear c9
        obtain ⟨y554, hy554⟩ : ∃ y_ : List (S118), y_ = (x3_1.set (x4_1 : Int).toNat (⟨t550, t551, t552, t553⟩ : S118)) := ⟨_, rfl⟩
        replace H : (laws_toEventS.l0 k1 l0 y554 (wrap64 (x4_1 + 1))) = some r := by first | (rw [hy554]; with_reducible exact H) | (have H2_ := (Option.bind_some _ _).symm.trans H; rw [hy554]; with_reducible exact H2_) | (have H2_ := (Option.bind_some _ _).symm.trans H; with_reducible exact H2_) | with_reducible exact H | (rw [hy554]; exact H) | exact H
        have Ny554 := sk_' hy554
        clear hy554
        have H' := sk_' H
        clear H
        have p549 : 0 ≤ (x4_1 : Int) := od_' (by first | (with_reducible assumption) | assumption)
        have q549 : x4_1 < (l0.length : Int) := od_' (by first | (with_reducible assumption) | assumption)
        obtain ⟨ad549, e549, hx549_0, hx549_1, hx549_2, hx549_3⟩ := at_T126 HR0.out x4_1 p549 q549
        cases e549
        replace hx549_0 := (HB.out.cell (bq_' w _ hx549_0)).trans hx549_0
        replace hx549_1 := (HB.out.cell (bq_' w _ hx549_1)).trans hx549_1
        replace hx549_2 := (HB.out.cell (bq_' w _ hx549_2)).trans hx549_2
        replace hx549_3 := (HB.out.cell (bq_' w _ hx549_3)).trans hx549_3
        replace p549 := eq_true p549
        replace q549 := eq_true q549
        go_wp2_with (first | ((with_reducible refine xj_' (f := 96) rfl ?_); refine goesL_ (some 20) rfl rfl Try.func96 (by kernel_rfl) rfl #[.agg #[.int .i64 ((rd_T126 l0 x4_1).f0), .int .i64 ((rd_T126 l0 x4_1).f1), .int .i64 ((rd_T126 l0 x4_1).f2), .int .i64 ((rd_T126 l0 x4_1).f3)]] rfl (by (try simp only [xm_', xc_', xn_']); first | done | rfl | (simp only [xd_', xt_']; rfl)) ?_; (with_reducible refine (laws_toEvent.calls ((rd_T126 l0 x4_1).f0) ((rd_T126 l0 x4_1).f1) ((rd_T126 l0 x4_1).f2) ((rd_T126 l0 x4_1).f3) t550 t551 t552 t553 _ A8.out).mono ?_); rintro e w11 ⟨rfl, hb⟩; refine ⟨_, rfl, ?_⟩; have n0_ := sk_' (xb_' (by (with_reducible repeat (first | apply ra_' | apply rn_' | apply rd1_')); exact HO_3.out) hb); have n1_ := sk_' (pp_' (by repeat (first | (with_reducible first | exact HB.out | apply pa_' | apply pn_' | apply pd_') | exact HB.out)) hb); clear HO_3; clear HB; have HO_3 := n0_; have HB := n1_; clear n0_ n1_; (try clear hb); (try clear hb2); (try clear hk); (try clear hi); have p10 : 0 ≤ (x4_1 : Int) := od_' (by first | (with_reducible assumption) | assumption); have q10 : (x4_1 : Int) < ((x3_1.length : Int) : Int) := od_' (by first | (with_reducible assumption) | assumption); obtain ⟨go10, co10, eo10, gb10, gl10, cl10, HG10⟩ := Kd.R_form HO_3.out (by omega); (first | cases eo10 | (injection eo10 with ea_ en_ ec_; (first | subst ea_ | (injection ea_ with ea_; subst ea_)); subst ec_; clear en_)); have GB10 := sk_' gb10; have GG10 := sk_' HG10; clear gb10 gl10 HG10; obtain ⟨ce10, hcl10, hM10, hcc10, hfr10⟩ := Kd.R_elem HO_3.out z118 (x4_1 : Int) p10 q10; obtain rfl := k118_openM hM10; have hx10_0 : w11.cell? ⟨go10, (x4_1 : Int).toNat * 4, none⟩ = some (.int .i64 ((rd_T118 x3_1 x4_1).f0)) := hcc10 0 _ rfl; have hx10_1 : w11.cell? ⟨go10, (x4_1 : Int).toNat * 4 + 1, none⟩ = some (.int .i64 ((rd_T118 x3_1 x4_1).f1)) := hcc10 1 _ rfl; have hx10_2 : w11.cell? ⟨go10, (x4_1 : Int).toNat * 4 + 2, none⟩ = some (.int .i64 ((rd_T118 x3_1 x4_1).f2)) := hcc10 2 _ rfl; have hx10_3 : w11.cell? ⟨go10, (x4_1 : Int).toNat * 4 + 3, none⟩ = some (.int .i64 ((rd_T118 x3_1 x4_1).f3)) := hcc10 3 _ rfl; have hf10_0 : w11.frozen? ⟨go10, (x4_1 : Int).toNat * 4, none⟩ = false := hfr10 0; have hf10_1 : w11.frozen? ⟨go10, (x4_1 : Int).toNat * 4 + 1, none⟩ = false := hfr10 1; have hf10_2 : w11.frozen? ⟨go10, (x4_1 : Int).toNat * 4 + 2, none⟩ = false := hfr10 2; have hf10_3 : w11.frozen? ⟨go10, (x4_1 : Int).toNat * 4 + 3, none⟩ = false := hfr10 3; clear hcl10 hcc10 hfr10 hM10; replace p10 := eq_true p10; replace q10 := eq_true q10; have HX12 := sk_' (show Kd.R k118 118 w11 w.heap.size (fun _ => True) (.slice (some ⟨go10, 0, none⟩) x3_1.length co10) x3_1 from (by (with_reducible repeat (first | apply ra_' | apply rn_' | apply rd1_')); exact HO_3.out)); obtain ⟨ce12, hcl12, hM12, hcc12, hfr12⟩ := Kd.R_elem HX12.out z118 (x4_1 : Int) (od_' (by first | (with_reducible assumption) | assumption)) (by have h_ : (x4_1 : Int) < ((x3_1.length : Int) : Int) := od_' (by first | (with_reducible assumption) | assumption); first | exact h_ | (have e_ := (xr_' HO_3.out).1; omega) | simpa using h_); obtain rfl := k118_openM hM12; have HP12 := Kd.R_seg HX12.out (x4_1 : Int) (od_' (by first | (with_reducible assumption) | assumption)) (by have h_ : (x4_1 : Int) < ((x3_1.length : Int) : Int) := od_' (by first | (with_reducible assumption) | assumption); first | exact h_ | (have e_ := (xr_' HO_3.out).1; omega) | simpa using h_) (seg := [.int .i64 t550, .int .i64 t551, .int .i64 t552, .int .i64 t553]) (j := 0) hcl12 hcc12 (show 4 ≤ 4 from by decide) (x' := (⟨t550, t551, t552, t553⟩ : S118)) (k118_mkM _ _ _ (⟨t550, t551, t552, t553⟩ : S118) ) (fun _ hk => hk); have hx12_0 := hcc12 0 _ rfl; (try simp only [show (k118).sz = 4 from rfl, Nat.mul_one, Nat.add_zero] at hx12_0); have hf12_0 := hfr12 0; (try simp only [show (k118).sz = 4 from rfl, Nat.mul_one, Nat.add_zero] at hf12_0); have hx12_1 := hcc12 1 _ rfl; (try simp only [show (k118).sz = 4 from rfl, Nat.mul_one, Nat.add_zero] at hx12_1); have hf12_1 := hfr12 1; (try simp only [show (k118).sz = 4 from rfl, Nat.mul_one, Nat.add_zero] at hf12_1); have hx12_2 := hcc12 2 _ rfl; (try simp only [show (k118).sz = 4 from rfl, Nat.mul_one, Nat.add_zero] at hx12_2); have hf12_2 := hfr12 2; (try simp only [show (k118).sz = 4 from rfl, Nat.mul_one, Nat.add_zero] at hf12_2); have hx12_3 := hcc12 3 _ rfl; (try simp only [show (k118).sz = 4 from rfl, Nat.mul_one, Nat.add_zero] at hx12_3); have hf12_3 := hfr12 3; (try simp only [show (k118).sz = 4 from rfl, Nat.mul_one, Nat.add_zero] at hf12_3); clear hcl12 hcc12 hfr12 hM12) | ((with_reducible refine gate_store (t := 118) (p := 21) rfl ?_); refine store_event (t := 118) (p := 21) (v := ?vo_w13) (w1 := ((((w11.setCell ⟨go10, (x4_1 : Int).toNat * 4, none⟩ (.int .i64 t550)).setCell ⟨go10, (x4_1 : Int).toNat * 4 + 1, none⟩ (.int .i64 t551)).setCell ⟨go10, (x4_1 : Int).toNat * 4 + 2, none⟩ (.int .i64 t552)).setCell ⟨go10, (x4_1 : Int).toNat * 4 + 3, none⟩ (.int .i64 t553))) ?hg ?ho ?hn ?hr ?_; (case ho => rfl); (case hg => rfl); (case hn => rfl); (case hr => first | (go_simp; done) | (go_simp; rfl)); intro w13 hw; have hg : w11.grownBy w13 (some go10) := (by rw [hw]; exact HP12.2); have hp_ : Kd.R k118 118 w13 w.heap.size (fun _ => True) (.slice (some ⟨go10, 0, none⟩) x3_1.length co10) y554 := (by rw [hw, Ny554.out]; exact HP12.1); clear HP12; have n0_ := sk_' (hp_); have n1_ := sk_' ((by rw [hw]; exact pt_' (pt_' (pt_' (pt_' (HB.out) GB10.out) GB10.out) GB10.out) GB10.out : Below w.heap.size w w13)); clear HO_3; clear HB; have HO_3 := n0_; have HB := n1_; clear n0_ n1_; clear hg hw hp_))
        go_roundg k1
        case measure => have := HK1.out; omega
        case rel => exact ⟨(y554), (wrap64 (x4_1 + 1)), (by first | rfl | (simp; done) | (simp [*]; done)), H', ⟨by have := HK1.out; omega⟩, ⟨by (with_reducible repeat (first | apply ra_' | apply rn_' | apply rd1_')); exact HO_3.out⟩, ⟨by repeat (first | (with_reducible first | exact HB.out | apply pa_' | apply pn_' | apply pd_') | exact HB.out)⟩⟩
       rw [if_neg c9] at H
       exact absurd H (by simp)
      rw [if_neg c7] at H
      exact absurd H (by simp)
     rw [if_neg c6] at H
     have c6b0 : decide (x4_1 < (l0.length : Int)) = false := decide_eq_false c6
     clear c6
     obtain rfl := Option.some.inj H
     go_wp2
     go_ret
     exact ⟨_, rfl, rm HO_3, bm HB⟩
  rw [if_neg c3] at H
  exact absurd H (by simp)
 rw [if_neg c2] at H
 exact absurd H (by simp)
end Go.Proofs.Ytiophiipmgpaeaa.F

namespace Go.Proofs.Ytiophiipmgpaeaa.F
open Go.RowKit Go.Proofs.YtiophiipmgpaeaaW.PrintWords Go.Proofs.YtiophiipmgpaeaaW.PrintLast Go.Proofs.YtiophiipmgpaeaaW.PrintMore
attribute [local go_sem] max2_int min2_int max_two min_two max_three min_three max_four min_four
set_option linter.unusedVariables false
set_option linter.unusedSimpArgs false
def laws_szTempoS.f (l0 : List (S142)) (a1 : Int) : Option (Int) := if (wrap64 (a1 - (l0.length : Int))) < 0 then (some (-1)) else (some (wrap64 (a1 - (l0.length : Int))))
set_option maxHeartbeats 8000000 in
set_option maxRecDepth 100000 in
theorem laws_szTempoS.calls (A0 : Option Addr) (c0 : Nat) (l0 : List (S142)) (a1 : Int) (r : Int) (w : World) (hr0 : Kd.C k142 w A0 l0.length l0) (hc0 : l0.length ≤ c0) (h : laws_szTempoS.f l0 a1 = some r) :
  Calls Try.prog 56 #[.slice A0 l0.length c0, .int .i64 a1] w fun e w' => e = .returned (.int .i64 r) ∧ Drawn0 w w' := by
 have HR0 := sk_' hr0
 have HC0 := sk_' hc0
 clear hr0 hc0
 have H : (if (wrap64 (a1 - (l0.length : Int))) < 0 then (some (-1)) else (some (wrap64 (a1 - (l0.length : Int))))) = some r := h
 clear h
 by_cases c3 : (wrap64 (a1 - (l0.length : Int))) < 0
 ·
  rw [if_pos c3] at H
  have c3b0 : decide ((wrap64 (a1 - (l0.length : Int))) < 0) = true := decide_eq_true c3
  clear c3
  obtain rfl := Option.some.inj H
  go_enter Try.func56, Try.ntmps56
  go_wp2
  go_ret
  exact ⟨by first | rfl | (simp; done) | (simp [*]; done), by repeat (first | exact Drawn0.refl _ | apply Drawn0.step)⟩
 rw [if_neg c3] at H
 have c3b0 : decide ((wrap64 (a1 - (l0.length : Int))) < 0) = false := decide_eq_false c3
 clear c3
 obtain rfl := Option.some.inj H
 go_enter Try.func56, Try.ntmps56
 go_wp2
 go_ret
 exact ⟨by first | rfl | (simp; done) | (simp [*]; done), by repeat (first | exact Drawn0.refl _ | apply Drawn0.step)⟩
end Go.Proofs.Ytiophiipmgpaeaa.F

namespace Go.Proofs.Ytiophiipmgpaeaa.F
open Go.RowKit Go.Proofs.YtiophiipmgpaeaaW.PrintWords Go.Proofs.YtiophiipmgpaeaaW.PrintLast Go.Proofs.YtiophiipmgpaeaaW.PrintMore
attribute [local go_sem] max2_int min2_int max_two min_two max_three min_three max_four min_four
set_option linter.unusedVariables false
set_option linter.unusedSimpArgs false
def spec_l1In.f (a0 : Int) (a1 : Int) (a2 : Int) : Option (Bool) := if a0 ≥ a1 then (some (decide (a0 ≤ a2))) else (some false)
set_option maxHeartbeats 8000000 in
set_option maxRecDepth 100000 in
theorem spec_l1In.calls (a0 : Int) (a1 : Int) (a2 : Int) (r : Bool) (w : World) (h : spec_l1In.f a0 a1 a2 = some r) :
  Calls Try.prog 80 #[.int .i64 a0, .int .i64 a1, .int .i64 a2] w fun e w' => e = .returned (.bool r) ∧ Drawn0 w w' := by
 have H : (if a0 ≥ a1 then (some (decide (a0 ≤ a2))) else (some false)) = some r := h
 clear h
 by_cases c4 : a0 ≥ a1
 ·
  rw [if_pos c4] at H
  have c4b0 : decide (a1 ≤ a0) = true := decide_eq_true c4
  clear c4
  obtain rfl := Option.some.inj H
  go_enter Try.func80, Try.ntmps80
  go_wp2
  go_ret
  exact ⟨by first | rfl | (simp; done) | (simp [*]; done), by repeat (first | exact Drawn0.refl _ | apply Drawn0.step)⟩
 rw [if_neg c4] at H
 have c4b0 : decide (a1 ≤ a0) = false := decide_eq_false c4
 clear c4
 obtain rfl := Option.some.inj H
 go_enter Try.func80, Try.ntmps80
 go_wp2
 go_ret
 exact ⟨by first | rfl | (simp; done) | (simp [*]; done), by repeat (first | exact Drawn0.refl _ | apply Drawn0.step)⟩
end Go.Proofs.Ytiophiipmgpaeaa.F

namespace Go.Proofs.Ytiophiipmgpaeaa.F
open Go.RowKit Go.Proofs.YtiophiipmgpaeaaW.PrintWords Go.Proofs.YtiophiipmgpaeaaW.PrintLast Go.Proofs.YtiophiipmgpaeaaW.PrintMore
attribute [local go_sem] max2_int min2_int max_two min_two max_three min_three max_four min_four
set_option linter.unusedVariables false
set_option linter.unusedSimpArgs false
def spec_l8Ok.f (a0_0 : Int) (a0_1 : Int) (a0_2 : Int) (a0_3 : Int) : Option (Bool) := (spec_l1In.f a0_0 0 2000).bind fun t493 => (if t493 = true then ((spec_l1In.f a0_1 1 96).bind fun t494 => (if t494 = true then ((spec_l1In.f a0_2 21 108).bind fun t495 => (if t495 = true then ((spec_l1In.f a0_3 1 4).bind fun t496 => (some t496)) else (some false))) else (some false))) else (some false))
set_option maxHeartbeats 8000000 in
set_option maxRecDepth 100000 in
theorem spec_l8Ok.calls (a0_0 : Int) (a0_1 : Int) (a0_2 : Int) (a0_3 : Int) (r : Bool) (w : World) (h : spec_l8Ok.f a0_0 a0_1 a0_2 a0_3 = some r) :
  Calls Try.prog 132 #[.agg #[.int .i64 a0_0, .int .i64 a0_1, .int .i64 a0_2, .int .i64 a0_3]] w fun e w' => e = .returned (.bool r) ∧ Below w.heap.size w w' := by
 have hu118 := Try.underlying118
 have HB := sk_' (Below.refl w.heap.size w)
 have H : ((spec_l1In.f a0_0 0 2000).bind fun t493 => (if t493 = true then ((spec_l1In.f a0_1 1 96).bind fun t494 => (if t494 = true then ((spec_l1In.f a0_2 21 108).bind fun t495 => (if t495 = true then ((spec_l1In.f a0_3 1 4).bind fun t496 => (some t496)) else (some false))) else (some false))) else (some false))) = some r := h
 clear h
 replace H := bs_' H
 obtain ⟨t493, A20, H⟩ := H
 try dsimp only at H
 have A2 := sk_' A20
 clear A20
 by_cases c3 : t493 = true
 ·
  subst c3
  rw [if_pos rfl] at H
  replace H := bs_' H
  obtain ⟨t494, A40, H⟩ := H
  try dsimp only at H
  have A4 := sk_' A40
  clear A40
  by_cases c5 : t494 = true
  ·
   subst c5
   rw [if_pos rfl] at H
   replace H := bs_' H
   obtain ⟨t495, A60, H⟩ := H
   try dsimp only at H
   have A6 := sk_' A60
   clear A60
   by_cases c7 : t495 = true
   ·
    subst c7
    rw [if_pos rfl] at H
    replace H := bs_' H
    obtain ⟨t496, A80, H⟩ := H
    try dsimp only at H
    have A8 := sk_' A80
    clear A80
    obtain rfl := Option.some.inj H
    go_enter Try.func132, Try.ntmps132
    go_wp2_with (first | ((with_reducible refine gate_dst (N := 1) rfl ?_); refine box_event ?hg (N := 1) ?hd (cs := #[.int .i64 a0_0, .int .i64 a0_1, .int .i64 a0_2, .int .i64 a0_3]) (t := 118) ?hr ?_; (case hd => rfl); (case hg => rfl); (case hr => first | (go_simp; done) | (go_simp; rfl)); intro gb492 hg w9 hbox hb; have n0_ := sk_' (pp_' (by repeat (first | (with_reducible first | exact HB.out | apply pa_' | apply pn_' | apply pd_') | exact HB.out)) hb); have n1_ := sk_' (hbox); have n2_ := sk_' ((by rw [hg]; exact (ps_' (by repeat (first | (with_reducible first | exact HB.out | apply pa_' | apply pn_' | apply pd_') | exact HB.out))) : w.heap.size ≤ gb492)); have n3_ := sk_' ((by rw [hg]; exact (ps_' (by repeat (first | (with_reducible first | exact HB.out | apply pa_' | apply pn_' | apply pd_') | exact HB.out))) : w.heap.size ≤ gb492)); clear HB; have HB := n0_; have BK492 := n1_; have GW492 := n2_; have GE492 := n3_; clear n0_ n1_ n2_ n3_; clear hb hbox hg; have hcz10_0 : w9.cell? ⟨gb492, 0, none⟩ = some (.int .i64 a0_0) := (kc_' BK492.out 0).trans rfl; have hcz10_1 : w9.cell? ⟨gb492, 1, none⟩ = some (.int .i64 a0_1) := (kc_' BK492.out 1).trans rfl; have hcz10_2 : w9.cell? ⟨gb492, 2, none⟩ = some (.int .i64 a0_2) := (kc_' BK492.out 2).trans rfl; have hcz10_3 : w9.cell? ⟨gb492, 3, none⟩ = some (.int .i64 a0_3) := (kc_' BK492.out 3).trans rfl; have hfz10_0 := kf_' BK492.out 0; have hfz10_1 := kf_' BK492.out 1; have hfz10_2 := kf_' BK492.out 2; have hfz10_3 := kf_' BK492.out 3) | ((with_reducible refine xj_' (f := 80) rfl ?_); refine goesL_ (some 5) rfl rfl Try.func80 (by kernel_rfl) rfl #[.int .i64 a0_0, .int .i64 0, .int .i64 2000] rfl (by (try simp only [xm_', xc_', xn_']); first | done | rfl | (simp only [xd_', xt_']; rfl)) ?_; (with_reducible refine (spec_l1In.calls a0_0 0 2000 true _ A2.out).mono ?_); rintro e w' ⟨rfl, ⟨nd, rfl⟩⟩; refine ⟨_, rfl, ?_⟩) | (go_at_call 80; (with_reducible refine (spec_l1In.calls a0_1 1 96 true _ A4.out).mono ?_); rintro e w' ⟨rfl, ⟨nd, rfl⟩⟩) | (go_at_call 80; (with_reducible refine (spec_l1In.calls a0_2 21 108 true _ A6.out).mono ?_); rintro e w' ⟨rfl, ⟨nd, rfl⟩⟩) | (go_at_call 80; (with_reducible refine (spec_l1In.calls a0_3 1 4 t496 _ A8.out).mono ?_); rintro e w' ⟨rfl, ⟨nd, rfl⟩⟩))
    go_ret
    exact ⟨by first | rfl | (simp [errW_none, errW_some] <;> rfl) | (simp [*, errW_none, errW_some] <;> rfl), by repeat (first | (with_reducible first | exact HB.out | apply pa_' | apply pn_' | apply pd_' | refine pt_' ?_ GE492.out) | exact HB.out)⟩
   replace c7 := Bool.eq_false_iff.mpr c7
   subst c7
   rw [if_neg (show ¬ (false = true) by decide)] at H
   obtain rfl := Option.some.inj H
   go_enter Try.func132, Try.ntmps132
   go_wp2_with (first | ((with_reducible refine gate_dst (N := 1) rfl ?_); refine box_event ?hg (N := 1) ?hd (cs := #[.int .i64 a0_0, .int .i64 a0_1, .int .i64 a0_2, .int .i64 a0_3]) (t := 118) ?hr ?_; (case hd => rfl); (case hg => rfl); (case hr => first | (go_simp; done) | (go_simp; rfl)); intro gb492 hg w11 hbox hb; have n0_ := sk_' (pp_' (by repeat (first | (with_reducible first | exact HB.out | apply pa_' | apply pn_' | apply pd_') | exact HB.out)) hb); have n1_ := sk_' (hbox); have n2_ := sk_' ((by rw [hg]; exact (ps_' (by repeat (first | (with_reducible first | exact HB.out | apply pa_' | apply pn_' | apply pd_') | exact HB.out))) : w.heap.size ≤ gb492)); have n3_ := sk_' ((by rw [hg]; exact (ps_' (by repeat (first | (with_reducible first | exact HB.out | apply pa_' | apply pn_' | apply pd_') | exact HB.out))) : w.heap.size ≤ gb492)); clear HB; have HB := n0_; have BK492 := n1_; have GW492 := n2_; have GE492 := n3_; clear n0_ n1_ n2_ n3_; clear hb hbox hg; have hcz12_0 : w11.cell? ⟨gb492, 0, none⟩ = some (.int .i64 a0_0) := (kc_' BK492.out 0).trans rfl; have hcz12_1 : w11.cell? ⟨gb492, 1, none⟩ = some (.int .i64 a0_1) := (kc_' BK492.out 1).trans rfl; have hcz12_2 : w11.cell? ⟨gb492, 2, none⟩ = some (.int .i64 a0_2) := (kc_' BK492.out 2).trans rfl; have hcz12_3 : w11.cell? ⟨gb492, 3, none⟩ = some (.int .i64 a0_3) := (kc_' BK492.out 3).trans rfl; have hfz12_0 := kf_' BK492.out 0; have hfz12_1 := kf_' BK492.out 1; have hfz12_2 := kf_' BK492.out 2; have hfz12_3 := kf_' BK492.out 3) | ((with_reducible refine xj_' (f := 80) rfl ?_); refine goesL_ (some 5) rfl rfl Try.func80 (by kernel_rfl) rfl #[.int .i64 a0_0, .int .i64 0, .int .i64 2000] rfl (by (try simp only [xm_', xc_', xn_']); first | done | rfl | (simp only [xd_', xt_']; rfl)) ?_; (with_reducible refine (spec_l1In.calls a0_0 0 2000 true _ A2.out).mono ?_); rintro e w' ⟨rfl, ⟨nd, rfl⟩⟩; refine ⟨_, rfl, ?_⟩) | (go_at_call 80; (with_reducible refine (spec_l1In.calls a0_1 1 96 true _ A4.out).mono ?_); rintro e w' ⟨rfl, ⟨nd, rfl⟩⟩) | (go_at_call 80; (with_reducible refine (spec_l1In.calls a0_2 21 108 false _ A6.out).mono ?_); rintro e w' ⟨rfl, ⟨nd, rfl⟩⟩))
   go_ret
   exact ⟨by first | rfl | (simp [errW_none, errW_some] <;> rfl) | (simp [*, errW_none, errW_some] <;> rfl), by repeat (first | (with_reducible first | exact HB.out | apply pa_' | apply pn_' | apply pd_' | refine pt_' ?_ GE492.out) | exact HB.out)⟩
  replace c5 := Bool.eq_false_iff.mpr c5
  subst c5
  rw [if_neg (show ¬ (false = true) by decide)] at H
  obtain rfl := Option.some.inj H
  go_enter Try.func132, Try.ntmps132
  go_wp2_with (first | ((with_reducible refine gate_dst (N := 1) rfl ?_); refine box_event ?hg (N := 1) ?hd (cs := #[.int .i64 a0_0, .int .i64 a0_1, .int .i64 a0_2, .int .i64 a0_3]) (t := 118) ?hr ?_; (case hd => rfl); (case hg => rfl); (case hr => first | (go_simp; done) | (go_simp; rfl)); intro gb492 hg w13 hbox hb; have n0_ := sk_' (pp_' (by repeat (first | (with_reducible first | exact HB.out | apply pa_' | apply pn_' | apply pd_') | exact HB.out)) hb); have n1_ := sk_' (hbox); have n2_ := sk_' ((by rw [hg]; exact (ps_' (by repeat (first | (with_reducible first | exact HB.out | apply pa_' | apply pn_' | apply pd_') | exact HB.out))) : w.heap.size ≤ gb492)); have n3_ := sk_' ((by rw [hg]; exact (ps_' (by repeat (first | (with_reducible first | exact HB.out | apply pa_' | apply pn_' | apply pd_') | exact HB.out))) : w.heap.size ≤ gb492)); clear HB; have HB := n0_; have BK492 := n1_; have GW492 := n2_; have GE492 := n3_; clear n0_ n1_ n2_ n3_; clear hb hbox hg; have hcz14_0 : w13.cell? ⟨gb492, 0, none⟩ = some (.int .i64 a0_0) := (kc_' BK492.out 0).trans rfl; have hcz14_1 : w13.cell? ⟨gb492, 1, none⟩ = some (.int .i64 a0_1) := (kc_' BK492.out 1).trans rfl; have hcz14_2 : w13.cell? ⟨gb492, 2, none⟩ = some (.int .i64 a0_2) := (kc_' BK492.out 2).trans rfl; have hcz14_3 : w13.cell? ⟨gb492, 3, none⟩ = some (.int .i64 a0_3) := (kc_' BK492.out 3).trans rfl; have hfz14_0 := kf_' BK492.out 0; have hfz14_1 := kf_' BK492.out 1; have hfz14_2 := kf_' BK492.out 2; have hfz14_3 := kf_' BK492.out 3) | ((with_reducible refine xj_' (f := 80) rfl ?_); refine goesL_ (some 5) rfl rfl Try.func80 (by kernel_rfl) rfl #[.int .i64 a0_0, .int .i64 0, .int .i64 2000] rfl (by (try simp only [xm_', xc_', xn_']); first | done | rfl | (simp only [xd_', xt_']; rfl)) ?_; (with_reducible refine (spec_l1In.calls a0_0 0 2000 true _ A2.out).mono ?_); rintro e w' ⟨rfl, ⟨nd, rfl⟩⟩; refine ⟨_, rfl, ?_⟩) | (go_at_call 80; (with_reducible refine (spec_l1In.calls a0_1 1 96 false _ A4.out).mono ?_); rintro e w' ⟨rfl, ⟨nd, rfl⟩⟩))
  go_ret
  exact ⟨by first | rfl | (simp [errW_none, errW_some] <;> rfl) | (simp [*, errW_none, errW_some] <;> rfl), by repeat (first | (with_reducible first | exact HB.out | apply pa_' | apply pn_' | apply pd_' | refine pt_' ?_ GE492.out) | exact HB.out)⟩
 replace c3 := Bool.eq_false_iff.mpr c3
 subst c3
 rw [if_neg (show ¬ (false = true) by decide)] at H
 obtain rfl := Option.some.inj H
 go_enter Try.func132, Try.ntmps132
 go_wp2_with (first | ((with_reducible refine gate_dst (N := 1) rfl ?_); refine box_event ?hg (N := 1) ?hd (cs := #[.int .i64 a0_0, .int .i64 a0_1, .int .i64 a0_2, .int .i64 a0_3]) (t := 118) ?hr ?_; (case hd => rfl); (case hg => rfl); (case hr => first | (go_simp; done) | (go_simp; rfl)); intro gb492 hg w15 hbox hb; have n0_ := sk_' (pp_' (by repeat (first | (with_reducible first | exact HB.out | apply pa_' | apply pn_' | apply pd_') | exact HB.out)) hb); have n1_ := sk_' (hbox); have n2_ := sk_' ((by rw [hg]; exact (ps_' (by repeat (first | (with_reducible first | exact HB.out | apply pa_' | apply pn_' | apply pd_') | exact HB.out))) : w.heap.size ≤ gb492)); have n3_ := sk_' ((by rw [hg]; exact (ps_' (by repeat (first | (with_reducible first | exact HB.out | apply pa_' | apply pn_' | apply pd_') | exact HB.out))) : w.heap.size ≤ gb492)); clear HB; have HB := n0_; have BK492 := n1_; have GW492 := n2_; have GE492 := n3_; clear n0_ n1_ n2_ n3_; clear hb hbox hg; have hcz16_0 : w15.cell? ⟨gb492, 0, none⟩ = some (.int .i64 a0_0) := (kc_' BK492.out 0).trans rfl; have hcz16_1 : w15.cell? ⟨gb492, 1, none⟩ = some (.int .i64 a0_1) := (kc_' BK492.out 1).trans rfl; have hcz16_2 : w15.cell? ⟨gb492, 2, none⟩ = some (.int .i64 a0_2) := (kc_' BK492.out 2).trans rfl; have hcz16_3 : w15.cell? ⟨gb492, 3, none⟩ = some (.int .i64 a0_3) := (kc_' BK492.out 3).trans rfl; have hfz16_0 := kf_' BK492.out 0; have hfz16_1 := kf_' BK492.out 1; have hfz16_2 := kf_' BK492.out 2; have hfz16_3 := kf_' BK492.out 3) | ((with_reducible refine xj_' (f := 80) rfl ?_); refine goesL_ (some 5) rfl rfl Try.func80 (by kernel_rfl) rfl #[.int .i64 a0_0, .int .i64 0, .int .i64 2000] rfl (by (try simp only [xm_', xc_', xn_']); first | done | rfl | (simp only [xd_', xt_']; rfl)) ?_; (with_reducible refine (spec_l1In.calls a0_0 0 2000 false _ A2.out).mono ?_); rintro e w' ⟨rfl, ⟨nd, rfl⟩⟩; refine ⟨_, rfl, ?_⟩))
 go_ret
 exact ⟨by first | rfl | (simp [errW_none, errW_some] <;> rfl) | (simp [*, errW_none, errW_some] <;> rfl), by repeat (first | (with_reducible first | exact HB.out | apply pa_' | apply pn_' | apply pd_' | refine pt_' ?_ GE492.out) | exact HB.out)⟩
end Go.Proofs.Ytiophiipmgpaeaa.F

namespace Go.Proofs.Ytiophiipmgpaeaa.F
open Go.RowKit Go.Proofs.YtiophiipmgpaeaaW.PrintWords Go.Proofs.YtiophiipmgpaeaaW.PrintLast Go.Proofs.YtiophiipmgpaeaaW.PrintMore
attribute [local go_sem] max2_int min2_int max_two min_two max_three min_three max_four min_four
set_option linter.unusedVariables false
set_option linter.unusedSimpArgs false
def spec_l8Before.f (a0_0 : Int) (a0_1 : Int) (a0_2 : Int) (a0_3 : Int) (a1_0 : Int) (a1_1 : Int) (a1_2 : Int) (a1_3 : Int) : Option (Bool) := if a0_0 = a1_0 then (if a0_3 = a1_3 then (some (decide (a0_2 < a1_2))) else (some (decide (a0_3 < a1_3)))) else (some (decide (a0_0 < a1_0)))
set_option maxHeartbeats 8000000 in
set_option maxRecDepth 100000 in
theorem spec_l8Before.calls (a0_0 : Int) (a0_1 : Int) (a0_2 : Int) (a0_3 : Int) (a1_0 : Int) (a1_1 : Int) (a1_2 : Int) (a1_3 : Int) (r : Bool) (w : World) (h : spec_l8Before.f a0_0 a0_1 a0_2 a0_3 a1_0 a1_1 a1_2 a1_3 = some r) :
  Calls Try.prog 133 #[.agg #[.int .i64 a0_0, .int .i64 a0_1, .int .i64 a0_2, .int .i64 a0_3], .agg #[.int .i64 a1_0, .int .i64 a1_1, .int .i64 a1_2, .int .i64 a1_3]] w fun e w' => e = .returned (.bool r) ∧ Below w.heap.size w w' := by
 have hu118 := Try.underlying118
 have HB := sk_' (Below.refl w.heap.size w)
 have H : (if a0_0 = a1_0 then (if a0_3 = a1_3 then (some (decide (a0_2 < a1_2))) else (some (decide (a0_3 < a1_3)))) else (some (decide (a0_0 < a1_0)))) = some r := h
 clear h
 by_cases c3 : a0_0 = a1_0
 ·
  rw [if_pos c3] at H
  have c3b0 : (a0_0 == a1_0) = true := beq_iff_eq.mpr c3
  have c3b1 : (a0_0 != a1_0) = false := bne_eq_false_iff_eq.mpr c3
  clear c3
  by_cases c4 : a0_3 = a1_3
  ·
   rw [if_pos c4] at H
   have c4b0 : (a0_3 == a1_3) = true := beq_iff_eq.mpr c4
   have c4b1 : (a0_3 != a1_3) = false := bne_eq_false_iff_eq.mpr c4
   clear c4
   obtain rfl := Option.some.inj H
   go_enter Try.func133, Try.ntmps133
   go_wp2_with (first | ((with_reducible refine gate_dst (N := 2) rfl ?_); refine box_event ?hg (N := 2) ?hd (cs := #[.int .i64 a0_0, .int .i64 a0_1, .int .i64 a0_2, .int .i64 a0_3]) (t := 118) ?hr ?_; (case hd => rfl); (case hg => rfl); (case hr => first | (go_simp; done) | (go_simp; rfl)); intro gb497 hg w5 hbox hb; have n0_ := sk_' (pp_' (bm HB) hb); have n1_ := sk_' (hbox); have n2_ := sk_' ((by rw [hg]; exact (ps_' (bm HB)) : w.heap.size ≤ gb497)); have n3_ := sk_' ((by rw [hg]; exact (ps_' (bm HB)) : w.heap.size ≤ gb497)); clear HB; have HB := n0_; have BK497 := n1_; have GW497 := n2_; have GE497 := n3_; clear n0_ n1_ n2_ n3_; clear hb hbox hg) | ((with_reducible refine gate_dst (N := 3) rfl ?_); refine box_event ?hg (N := 3) ?hd (cs := #[.int .i64 a1_0, .int .i64 a1_1, .int .i64 a1_2, .int .i64 a1_3]) (t := 118) ?hr ?_; (case hd => rfl); (case hg => rfl); (case hr => first | (go_simp; done) | (go_simp; rfl)); intro gb498 hg w6 hbox hb; have n0_ := sk_' (blk_below (g := gb497) (o := .cells #[.int .i64 a0_0, .int .i64 a0_1, .int .i64 a0_2, .int .i64 a0_3] 118 (0, 0)) (km BK497) hb); have n1_ := sk_' (pp_' (bm HB) hb); have n2_ := sk_' (hbox); have n3_ := sk_' ((by rw [hg]; exact (ps_' (bm HB)) : w.heap.size ≤ gb498)); have n4_ := sk_' ((by rw [hg]; exact (ps_' (bm HB)) : w.heap.size ≤ gb498)); have n5_ := sk_' ((by rw [hg]; exact Nat.ne_of_lt (blk_lt (g := gb497) (o := .cells #[.int .i64 a0_0, .int .i64 a0_1, .int .i64 a0_2, .int .i64 a0_3] 118 (0, 0)) (km BK497)) : gb497 ≠ gb498)); have n6_ := sk_' ((by rw [hg]; exact Nat.ne_of_gt (blk_lt (g := gb497) (o := .cells #[.int .i64 a0_0, .int .i64 a0_1, .int .i64 a0_2, .int .i64 a0_3] 118 (0, 0)) (km BK497)) : gb498 ≠ gb497)); clear BK497; clear HB; have BK497 := n0_; have HB := n1_; have BK498 := n2_; have GW498 := n3_; have GE498 := n4_; have NB497_498 := n5_; have NB498_497 := n6_; clear n0_ n1_ n2_ n3_ n4_ n5_ n6_; clear hb hbox hg; have hnb7 := NB497_498.out; have hnc7 := NB498_497.out; have hcz8_0 : w6.cell? ⟨gb497, 0, none⟩ = some (.int .i64 a0_0) := (kc_' BK497.out 0).trans rfl; have hcz8_1 : w6.cell? ⟨gb497, 1, none⟩ = some (.int .i64 a0_1) := (kc_' BK497.out 1).trans rfl; have hcz8_2 : w6.cell? ⟨gb497, 2, none⟩ = some (.int .i64 a0_2) := (kc_' BK497.out 2).trans rfl; have hcz8_3 : w6.cell? ⟨gb497, 3, none⟩ = some (.int .i64 a0_3) := (kc_' BK497.out 3).trans rfl; have hfz8_0 := kf_' BK497.out 0; have hfz8_1 := kf_' BK497.out 1; have hfz8_2 := kf_' BK497.out 2; have hfz8_3 := kf_' BK497.out 3; have hcz9_0 : w6.cell? ⟨gb498, 0, none⟩ = some (.int .i64 a1_0) := (kc_' BK498.out 0).trans rfl; have hcz9_1 : w6.cell? ⟨gb498, 1, none⟩ = some (.int .i64 a1_1) := (kc_' BK498.out 1).trans rfl; have hcz9_2 : w6.cell? ⟨gb498, 2, none⟩ = some (.int .i64 a1_2) := (kc_' BK498.out 2).trans rfl; have hcz9_3 : w6.cell? ⟨gb498, 3, none⟩ = some (.int .i64 a1_3) := (kc_' BK498.out 3).trans rfl; have hfz9_0 := kf_' BK498.out 0; have hfz9_1 := kf_' BK498.out 1; have hfz9_2 := kf_' BK498.out 2; have hfz9_3 := kf_' BK498.out 3))
   go_ret
   exact ⟨rfl, bm HB⟩
  rw [if_neg c4] at H
  have c4b0 : (a0_3 == a1_3) = false := beq_eq_false_iff_ne.mpr c4
  have c4b1 : (a0_3 != a1_3) = true := bne_iff_ne.mpr c4
  obtain rfl := Option.some.inj H
  go_enter Try.func133, Try.ntmps133
  go_wp2_with (first | ((with_reducible refine gate_dst (N := 2) rfl ?_); refine box_event ?hg (N := 2) ?hd (cs := #[.int .i64 a0_0, .int .i64 a0_1, .int .i64 a0_2, .int .i64 a0_3]) (t := 118) ?hr ?_; (case hd => rfl); (case hg => rfl); (case hr => first | (go_simp; done) | (go_simp; rfl)); intro gb497 hg w10 hbox hb; have n0_ := sk_' (pp_' (bm HB) hb); have n1_ := sk_' (hbox); have n2_ := sk_' ((by rw [hg]; exact (ps_' (bm HB)) : w.heap.size ≤ gb497)); have n3_ := sk_' ((by rw [hg]; exact (ps_' (bm HB)) : w.heap.size ≤ gb497)); clear HB; have HB := n0_; have BK497 := n1_; have GW497 := n2_; have GE497 := n3_; clear n0_ n1_ n2_ n3_; clear hb hbox hg) | ((with_reducible refine gate_dst (N := 3) rfl ?_); refine box_event ?hg (N := 3) ?hd (cs := #[.int .i64 a1_0, .int .i64 a1_1, .int .i64 a1_2, .int .i64 a1_3]) (t := 118) ?hr ?_; (case hd => rfl); (case hg => rfl); (case hr => first | (go_simp; done) | (go_simp; rfl)); intro gb498 hg w11 hbox hb; have n0_ := sk_' (blk_below (g := gb497) (o := .cells #[.int .i64 a0_0, .int .i64 a0_1, .int .i64 a0_2, .int .i64 a0_3] 118 (0, 0)) (km BK497) hb); have n1_ := sk_' (pp_' (bm HB) hb); have n2_ := sk_' (hbox); have n3_ := sk_' ((by rw [hg]; exact (ps_' (bm HB)) : w.heap.size ≤ gb498)); have n4_ := sk_' ((by rw [hg]; exact (ps_' (bm HB)) : w.heap.size ≤ gb498)); have n5_ := sk_' ((by rw [hg]; exact Nat.ne_of_lt (blk_lt (g := gb497) (o := .cells #[.int .i64 a0_0, .int .i64 a0_1, .int .i64 a0_2, .int .i64 a0_3] 118 (0, 0)) (km BK497)) : gb497 ≠ gb498)); have n6_ := sk_' ((by rw [hg]; exact Nat.ne_of_gt (blk_lt (g := gb497) (o := .cells #[.int .i64 a0_0, .int .i64 a0_1, .int .i64 a0_2, .int .i64 a0_3] 118 (0, 0)) (km BK497)) : gb498 ≠ gb497)); clear BK497; clear HB; have BK497 := n0_; have HB := n1_; have BK498 := n2_; have GW498 := n3_; have GE498 := n4_; have NB497_498 := n5_; have NB498_497 := n6_; clear n0_ n1_ n2_ n3_ n4_ n5_ n6_; clear hb hbox hg; have hnb12 := NB497_498.out; have hnc12 := NB498_497.out; have hcz13_0 : w11.cell? ⟨gb497, 0, none⟩ = some (.int .i64 a0_0) := (kc_' BK497.out 0).trans rfl; have hcz13_1 : w11.cell? ⟨gb497, 1, none⟩ = some (.int .i64 a0_1) := (kc_' BK497.out 1).trans rfl; have hcz13_2 : w11.cell? ⟨gb497, 2, none⟩ = some (.int .i64 a0_2) := (kc_' BK497.out 2).trans rfl; have hcz13_3 : w11.cell? ⟨gb497, 3, none⟩ = some (.int .i64 a0_3) := (kc_' BK497.out 3).trans rfl; have hfz13_0 := kf_' BK497.out 0; have hfz13_1 := kf_' BK497.out 1; have hfz13_2 := kf_' BK497.out 2; have hfz13_3 := kf_' BK497.out 3; have hcz14_0 : w11.cell? ⟨gb498, 0, none⟩ = some (.int .i64 a1_0) := (kc_' BK498.out 0).trans rfl; have hcz14_1 : w11.cell? ⟨gb498, 1, none⟩ = some (.int .i64 a1_1) := (kc_' BK498.out 1).trans rfl; have hcz14_2 : w11.cell? ⟨gb498, 2, none⟩ = some (.int .i64 a1_2) := (kc_' BK498.out 2).trans rfl; have hcz14_3 : w11.cell? ⟨gb498, 3, none⟩ = some (.int .i64 a1_3) := (kc_' BK498.out 3).trans rfl; have hfz14_0 := kf_' BK498.out 0; have hfz14_1 := kf_' BK498.out 1; have hfz14_2 := kf_' BK498.out 2; have hfz14_3 := kf_' BK498.out 3))
  go_ret
  exact ⟨rfl, bm HB⟩
 rw [if_neg c3] at H
 have c3b0 : (a0_0 == a1_0) = false := beq_eq_false_iff_ne.mpr c3
 have c3b1 : (a0_0 != a1_0) = true := bne_iff_ne.mpr c3
 obtain rfl := Option.some.inj H
 go_enter Try.func133, Try.ntmps133
 go_wp2_with (first | ((with_reducible refine gate_dst (N := 2) rfl ?_); refine box_event ?hg (N := 2) ?hd (cs := #[.int .i64 a0_0, .int .i64 a0_1, .int .i64 a0_2, .int .i64 a0_3]) (t := 118) ?hr ?_; (case hd => rfl); (case hg => rfl); (case hr => first | (go_simp; done) | (go_simp; rfl)); intro gb497 hg w15 hbox hb; have n0_ := sk_' (pp_' (bm HB) hb); have n1_ := sk_' (hbox); have n2_ := sk_' ((by rw [hg]; exact (ps_' (bm HB)) : w.heap.size ≤ gb497)); have n3_ := sk_' ((by rw [hg]; exact (ps_' (bm HB)) : w.heap.size ≤ gb497)); clear HB; have HB := n0_; have BK497 := n1_; have GW497 := n2_; have GE497 := n3_; clear n0_ n1_ n2_ n3_; clear hb hbox hg) | ((with_reducible refine gate_dst (N := 3) rfl ?_); refine box_event ?hg (N := 3) ?hd (cs := #[.int .i64 a1_0, .int .i64 a1_1, .int .i64 a1_2, .int .i64 a1_3]) (t := 118) ?hr ?_; (case hd => rfl); (case hg => rfl); (case hr => first | (go_simp; done) | (go_simp; rfl)); intro gb498 hg w16 hbox hb; have n0_ := sk_' (blk_below (g := gb497) (o := .cells #[.int .i64 a0_0, .int .i64 a0_1, .int .i64 a0_2, .int .i64 a0_3] 118 (0, 0)) (km BK497) hb); have n1_ := sk_' (pp_' (bm HB) hb); have n2_ := sk_' (hbox); have n3_ := sk_' ((by rw [hg]; exact (ps_' (bm HB)) : w.heap.size ≤ gb498)); have n4_ := sk_' ((by rw [hg]; exact (ps_' (bm HB)) : w.heap.size ≤ gb498)); have n5_ := sk_' ((by rw [hg]; exact Nat.ne_of_lt (blk_lt (g := gb497) (o := .cells #[.int .i64 a0_0, .int .i64 a0_1, .int .i64 a0_2, .int .i64 a0_3] 118 (0, 0)) (km BK497)) : gb497 ≠ gb498)); have n6_ := sk_' ((by rw [hg]; exact Nat.ne_of_gt (blk_lt (g := gb497) (o := .cells #[.int .i64 a0_0, .int .i64 a0_1, .int .i64 a0_2, .int .i64 a0_3] 118 (0, 0)) (km BK497)) : gb498 ≠ gb497)); clear BK497; clear HB; have BK497 := n0_; have HB := n1_; have BK498 := n2_; have GW498 := n3_; have GE498 := n4_; have NB497_498 := n5_; have NB498_497 := n6_; clear n0_ n1_ n2_ n3_ n4_ n5_ n6_; clear hb hbox hg; have hnb17 := NB497_498.out; have hnc17 := NB498_497.out; have hcz18_0 : w16.cell? ⟨gb497, 0, none⟩ = some (.int .i64 a0_0) := (kc_' BK497.out 0).trans rfl; have hcz18_1 : w16.cell? ⟨gb497, 1, none⟩ = some (.int .i64 a0_1) := (kc_' BK497.out 1).trans rfl; have hcz18_2 : w16.cell? ⟨gb497, 2, none⟩ = some (.int .i64 a0_2) := (kc_' BK497.out 2).trans rfl; have hcz18_3 : w16.cell? ⟨gb497, 3, none⟩ = some (.int .i64 a0_3) := (kc_' BK497.out 3).trans rfl; have hfz18_0 := kf_' BK497.out 0; have hfz18_1 := kf_' BK497.out 1; have hfz18_2 := kf_' BK497.out 2; have hfz18_3 := kf_' BK497.out 3; have hcz19_0 : w16.cell? ⟨gb498, 0, none⟩ = some (.int .i64 a1_0) := (kc_' BK498.out 0).trans rfl; have hcz19_1 : w16.cell? ⟨gb498, 1, none⟩ = some (.int .i64 a1_1) := (kc_' BK498.out 1).trans rfl; have hcz19_2 : w16.cell? ⟨gb498, 2, none⟩ = some (.int .i64 a1_2) := (kc_' BK498.out 2).trans rfl; have hcz19_3 : w16.cell? ⟨gb498, 3, none⟩ = some (.int .i64 a1_3) := (kc_' BK498.out 3).trans rfl; have hfz19_0 := kf_' BK498.out 0; have hfz19_1 := kf_' BK498.out 1; have hfz19_2 := kf_' BK498.out 2; have hfz19_3 := kf_' BK498.out 3))
 go_ret
 exact ⟨rfl, bm HB⟩
end Go.Proofs.Ytiophiipmgpaeaa.F

namespace Go.Proofs.Ytiophiipmgpaeaa.F
open Go.RowKit Go.Proofs.YtiophiipmgpaeaaW.PrintWords Go.Proofs.YtiophiipmgpaeaaW.PrintLast Go.Proofs.YtiophiipmgpaeaaW.PrintMore
attribute [local go_sem] max2_int min2_int max_two min_two max_three min_three max_four min_four
set_option linter.unusedVariables false
set_option linter.unusedSimpArgs false
def spec_IsScore.l0 : Nat → List (S118) → Int → Option (Bool)
 | 0, _, _ => none
 | k + 1, x0, x3 => if x3 < (x0.length : Int) then (if 0 ≤ x3 then ((spec_l8Ok.f ((rd_T118 x0 x3).f0) ((rd_T118 x0 x3).f1) ((rd_T118 x0 x3).f2) ((rd_T118 x0 x3).f3)).bind fun t500 => (if t500 = true then (if x3 > 0 then (if 0 ≤ (wrap64 (x3 - 1)) then (if (wrap64 (x3 - 1)) < (x0.length : Int) then ((spec_l8Before.f ((rd_T118 x0 (wrap64 (x3 - 1))).f0) ((rd_T118 x0 (wrap64 (x3 - 1))).f1) ((rd_T118 x0 (wrap64 (x3 - 1))).f2) ((rd_T118 x0 (wrap64 (x3 - 1))).f3) ((rd_T118 x0 x3).f0) ((rd_T118 x0 x3).f1) ((rd_T118 x0 x3).f2) ((rd_T118 x0 x3).f3)).bind fun t503 => (if t503 = true then (spec_IsScore.l0 k x0 (wrap64 (x3 + 1))) else (some false))) else (none)) else (none)) else (spec_IsScore.l0 k x0 (wrap64 (x3 + 1)))) else (some false))) else (none)) else (some (decide ((x0.length : Int) ≤ 40)))
def spec_IsScore.f (k : Nat) (l0 : List (S118)) : Option (Bool) := spec_IsScore.l0 k l0 0
def spec_IsScore.T4 : Bool × List (List Nat × List Nat) := (true, [([], []), ([], []), ([0, 1], [0, 1]), ([2], [2]), ([3], [3]), ([4], [4]), ([5, 4], [5]), ([6], [6]), ([7, 6], [6, 7]), ([8, 6, 6], [6, 8]), ([9], [9]), ([9], [9]), ([11, 9], [9, 11]), ([10, 12, 9], [9, 10, 12]), ([13, 9], [9, 13]), ([9], [9]), ([9], [9]), ([15, 16, 9], [9, 15, 16]), ([17, 9], [9, 17]), ([14, 18, 9, 9], [9, 14, 18]), ([19, 9], [9, 19]), ([9, 20, 6], [6, 9, 20]), ([6, 21], [6, 21])])
def spec_IsScore.B4 : List Nat := [0, 0, 3, 7, 15, 31, 63, 127, 255, 511, 1023, 1023, 3071, 8191, 16383, 1023, 1023, 99327, 230399, 524287, 1048575, 2097151, 4194303]
theorem spec_IsScore.tab4 : rtab .any (opsOf Try.f95 4) = spec_IsScore.T4 := by kernel_rfl
theorem spec_IsScore.bits4 : waitsOk spec_IsScore.T4.2 spec_IsScore.B4 = true := by kernel_rfl
set_option maxHeartbeats 8000000 in
set_option maxRecDepth 100000 in
theorem spec_IsScore.calls (k : Nat) (A0 : Option Addr) (c0 : Nat) (l0 : List (S118)) (r : Bool) (w : World) (hr0 : Kd.C k118 w A0 l0.length l0) (hc0 : l0.length ≤ c0) (h : spec_IsScore.f k l0 = some r) :
  Calls Try.prog 95 #[.slice A0 l0.length c0] w fun e w' => e = .returned (.bool r) ∧ Below w.heap.size w w' := by
 have hu118 := Try.underlying118
 have HR0 := sk_' hr0
 have HC0 := sk_' hc0
 clear hr0 hc0
 have HB := sk_' (Below.refl w.heap.size w)
 have H : (spec_IsScore.l0 k l0 0) = some r := h
 clear h
 have H' := sk_' H
 clear H
 go_enter Try.func95, Try.ntmps95
 go_wp2
 go_loopg [3] k (fun kq v3 w' => ∃ (x3_1 : Int), v3 = .int .i64 x3_1 ∧ Aside0 (spec_IsScore.l0 kq l0 x3_1 = some r) ∧ Aside0 (kq ≤ k) ∧ Aside0 (Below w.heap.size w w'))
 case atStart => exact ⟨(0), rfl, H', ⟨Nat.le_refl _⟩, ⟨bm HB⟩⟩
 case round =>
  clear H'
  obtain ⟨x3_1, rfl, HA, HK1, HB⟩ := hrel
  cases gk with
  | zero => exact absurd HA.out (by simp [spec_IsScore.l0])
  | succ k1 =>
   have H := HA.out
   clear HA
   simp only [spec_IsScore.l0] at H
   by_cases c2 : x3_1 < (l0.length : Int)
   ·
    rw [if_pos c2] at H
    have c2b0 : decide (x3_1 < (l0.length : Int)) = true := decide_eq_true c2
    clear c2
    by_cases c3 : 0 ≤ x3_1
    ·
     rw [if_pos c3] at H
     have c3b0 : decide (0 ≤ x3_1) = true := decide_eq_true c3
     clear c3
     replace H := bs_' H
     obtain ⟨t500, A40, H⟩ := H
     try dsimp only at H
     have A4 := sk_' A40
     clear A40
     by_cases c5 : t500 = true
     ·
      subst c5
      rw [if_pos rfl] at H
      by_cases c6 : x3_1 > 0
      ·
       rw [if_pos c6] at H
       have c6b0 : decide (0 < x3_1) = true := decide_eq_true c6
       clear c6
       obtain ⟨ji7, hji7⟩ : ∃ j_ : Int, (wrap64 (x3_1 - 1)) = j_ := ⟨_, rfl⟩
       replace H : (if 0 ≤ (ji7) then (if (ji7) < (l0.length : Int) then ((spec_l8Before.f ((rd_T118 l0 (ji7)).f0) ((rd_T118 l0 (ji7)).f1) ((rd_T118 l0 (ji7)).f2) ((rd_T118 l0 (ji7)).f3) ((rd_T118 l0 x3_1).f0) ((rd_T118 l0 x3_1).f1) ((rd_T118 l0 x3_1).f2) ((rd_T118 l0 x3_1).f3)).bind fun t503 => (if t503 = true then (spec_IsScore.l0 k1 l0 (wrap64 (x3_1 + 1))) else (some false))) else (none)) else (none)) = some r := by first | (rw [hji7] at H; exact H) | (simp only [hji7] at H ⊢; exact H)
       (try rw [hji7] at A4)
       have hji7w : (IntKind.i64.wrap (x3_1 - 1)) = ji7 := (i64_w _).trans hji7
       by_cases c8 : 0 ≤ (ji7)
       ·
        rw [if_pos c8] at H
        have c8b0 : decide (0 ≤ (ji7)) = true := decide_eq_true c8
        clear c8
        by_cases c9 : (ji7) < (l0.length : Int)
        ·
         rw [if_pos c9] at H
         have c9b0 : decide ((ji7) < (l0.length : Int)) = true := decide_eq_true c9
         clear c9
         replace H := bs_' H
         obtain ⟨t503, A100, H⟩ := H
         try dsimp only at H
         have A10 := sk_' A100
         clear A100
         by_cases c11 : t503 = true
         ·
          subst c11
          rw [if_pos rfl] at H
          have H' := sk_' H
          clear H
          try go_wp2
          have n0_ := sk_' (pd_' HB.out)
          clear HB
          have HB := n0_
          clear n0_
          have p499 : 0 ≤ (x3_1 : Int) := od_' (by first | (with_reducible assumption) | assumption)
          have q499 : x3_1 < (l0.length : Int) := od_' (by first | (with_reducible assumption) | assumption)
          obtain ⟨ad499, e499, hx499_0, hx499_1, hx499_2, hx499_3⟩ := at_T118 HR0.out x3_1 p499 q499
          have hw499_3 := hx499_3
          have hw499_2 := hx499_2
          have hw499_1 := hx499_1
          have hw499_0 := hx499_0
          cases e499
          replace hx499_0 := (HB.out.cell (bq_' w _ hx499_0)).trans hx499_0
          replace hx499_1 := (HB.out.cell (bq_' w _ hx499_1)).trans hx499_1
          replace hx499_2 := (HB.out.cell (bq_' w _ hx499_2)).trans hx499_2
          replace hx499_3 := (HB.out.cell (bq_' w _ hx499_3)).trans hx499_3
          replace p499 := eq_true p499
          replace q499 := eq_true q499
          have p501 : 0 ≤ ((ji7) : Int) := od_' (by first | (with_reducible assumption) | assumption)
          have q501 : (ji7) < (l0.length : Int) := od_' (by first | (with_reducible assumption) | assumption)
          obtain ⟨ad501, e501, hx501_0, hx501_1, hx501_2, hx501_3⟩ := at_T118 HR0.out (ji7) p501 q501
          have hw501_3 := hx501_3
          have hw501_2 := hx501_2
          have hw501_1 := hx501_1
          have hw501_0 := hx501_0
          obtain rfl : ad499 = ad501 := (by injection e501)
          replace hx501_0 := (HB.out.cell (bq_' w _ hx501_0)).trans hx501_0
          replace hx501_1 := (HB.out.cell (bq_' w _ hx501_1)).trans hx501_1
          replace hx501_2 := (HB.out.cell (bq_' w _ hx501_2)).trans hx501_2
          replace hx501_3 := (HB.out.cell (bq_' w _ hx501_3)).trans hx501_3
          replace p501 := eq_true p501
          replace q501 := eq_true q501
          have p502 : 0 ≤ (x3_1 : Int) := od_' (by first | (with_reducible assumption) | assumption)
          have q502 : x3_1 < (l0.length : Int) := od_' (by first | (with_reducible assumption) | assumption)
          obtain ⟨ad502, e502, hx502_0, hx502_1, hx502_2, hx502_3⟩ := at_T118 HR0.out x3_1 p502 q502
          have hw502_3 := hx502_3
          have hw502_2 := hx502_2
          have hw502_1 := hx502_1
          have hw502_0 := hx502_0
          obtain rfl : ad499 = ad502 := (by injection e502)
          replace hx502_0 := (HB.out.cell (bq_' w _ hx502_0)).trans hx502_0
          replace hx502_1 := (HB.out.cell (bq_' w _ hx502_1)).trans hx502_1
          replace hx502_2 := (HB.out.cell (bq_' w _ hx502_2)).trans hx502_2
          replace hx502_3 := (HB.out.cell (bq_' w _ hx502_3)).trans hx502_3
          replace p502 := eq_true p502
          replace q502 := eq_true q502
          refine BelowW.region (by kernel_rfl) (by kernel_rfl) ?_
          have hq0_ : wr.drew.cell? (ad499.add ((x3_1).toNat * 4)) = some (.int .i64 ((rd_T118 l0 x3_1).f0)) := ((HB.out.cell (bq_' w _ hw499_0)).trans hw499_0)
          have hq1_ : wr.drew.cell? ⟨(ad499.add ((x3_1).toNat * 4)).block, (ad499.add ((x3_1).toNat * 4)).off + 1, none⟩ = some (.int .i64 ((rd_T118 l0 x3_1).f1)) := ((HB.out.cell (bq_' w _ hw499_1)).trans hw499_1)
          have hq2_ : wr.drew.cell? ⟨(ad499.add ((x3_1).toNat * 4)).block, (ad499.add ((x3_1).toNat * 4)).off + 2, none⟩ = some (.int .i64 ((rd_T118 l0 x3_1).f2)) := ((HB.out.cell (bq_' w _ hw499_2)).trans hw499_2)
          have hq3_ : wr.drew.cell? ⟨(ad499.add ((x3_1).toNat * 4)).block, (ad499.add ((x3_1).toNat * 4)).off + 3, none⟩ = some (.int .i64 ((rd_T118 l0 x3_1).f3)) := ((HB.out.cell (bq_' w _ hw499_3)).trans hw499_3)
          have hq4_ : wr.drew.cell? (ad499.add (((ji7)).toNat * 4)) = some (.int .i64 ((rd_T118 l0 (ji7)).f0)) := ((HB.out.cell (bq_' w _ hw501_0)).trans hw501_0)
          have hq5_ : wr.drew.cell? ⟨(ad499.add (((ji7)).toNat * 4)).block, (ad499.add (((ji7)).toNat * 4)).off + 1, none⟩ = some (.int .i64 ((rd_T118 l0 (ji7)).f1)) := ((HB.out.cell (bq_' w _ hw501_1)).trans hw501_1)
          have hq6_ : wr.drew.cell? ⟨(ad499.add (((ji7)).toNat * 4)).block, (ad499.add (((ji7)).toNat * 4)).off + 2, none⟩ = some (.int .i64 ((rd_T118 l0 (ji7)).f2)) := ((HB.out.cell (bq_' w _ hw501_2)).trans hw501_2)
          have hq7_ : wr.drew.cell? ⟨(ad499.add (((ji7)).toNat * 4)).block, (ad499.add (((ji7)).toNat * 4)).off + 3, none⟩ = some (.int .i64 ((rd_T118 l0 (ji7)).f3)) := ((HB.out.cell (bq_' w _ hw501_3)).trans hw501_3)
          have hq8_ : wr.drew.cell? (ad499.add ((x3_1).toNat * 4)) = some (.int .i64 ((rd_T118 l0 x3_1).f0)) := ((HB.out.cell (bq_' w _ hw502_0)).trans hw502_0)
          have hq9_ : wr.drew.cell? ⟨(ad499.add ((x3_1).toNat * 4)).block, (ad499.add ((x3_1).toNat * 4)).off + 1, none⟩ = some (.int .i64 ((rd_T118 l0 x3_1).f1)) := ((HB.out.cell (bq_' w _ hw502_1)).trans hw502_1)
          have hq10_ : wr.drew.cell? ⟨(ad499.add ((x3_1).toNat * 4)).block, (ad499.add ((x3_1).toNat * 4)).off + 2, none⟩ = some (.int .i64 ((rd_T118 l0 x3_1).f2)) := ((HB.out.cell (bq_' w _ hw502_2)).trans hw502_2)
          have hq11_ : wr.drew.cell? ⟨(ad499.add ((x3_1).toNat * 4)).block, (ad499.add ((x3_1).toNat * 4)).off + 3, none⟩ = some (.int .i64 ((rd_T118 l0 x3_1).f3)) := ((HB.out.cell (bq_' w _ hw502_3)).trans hw502_3)
          generalize wr.drew = w12 at HB hx499_0 hx499_1 hx499_2 hx499_3 hx501_0 hx501_1 hx501_2 hx501_3 hx502_0 hx502_1 hx502_2 hx502_3 hq0_ hq1_ hq2_ hq3_ hq4_ hq5_ hq6_ hq7_ hq8_ hq9_ hq10_ hq11_ ⊢
          replace hq0_ := BelowW.at hq0_
          replace hq1_ := BelowW.at hq1_
          replace hq2_ := BelowW.at hq2_
          replace hq3_ := BelowW.at hq3_
          replace hq4_ := BelowW.at hq4_
          replace hq5_ := BelowW.at hq5_
          replace hq6_ := BelowW.at hq6_
          replace hq7_ := BelowW.at hq7_
          replace hq8_ := BelowW.at hq8_
          replace hq9_ := BelowW.at hq9_
          replace hq10_ := BelowW.at hq10_
          replace hq11_ := BelowW.at hq11_
          change wpQuiet _ _ _ _ (List.cons _ _) _
          repeat (go_big_quiet_step (first | (go_at_call 132; (with_reducible refine (spec_l8Ok.calls ((rd_T118 l0 x3_1).f0) ((rd_T118 l0 x3_1).f1) ((rd_T118 l0 x3_1).f2) ((rd_T118 l0 x3_1).f3) true _ A4.out).mono ?_); exact fun _ _ h_ => ⟨h_.1, BelowW.step _ h_.2⟩) | (go_at_call 133; (with_reducible refine (spec_l8Before.calls ((rd_T118 l0 (ji7)).f0) ((rd_T118 l0 (ji7)).f1) ((rd_T118 l0 (ji7)).f2) ((rd_T118 l0 (ji7)).f3) ((rd_T118 l0 x3_1).f0) ((rd_T118 l0 x3_1).f1) ((rd_T118 l0 x3_1).f2) ((rd_T118 l0 x3_1).f3) true _ A10.out).mono ?_); exact fun _ _ h_ => ⟨h_.1, BelowW.step _ h_.2⟩)))
          refine wpQuiet_nil ?_
          intro w14 hb
          try simp only [i64_w, i32_w]
          clear hq0_ hq1_ hq2_ hq3_ hq4_ hq5_ hq6_ hq7_ hq8_ hq9_ hq10_ hq11_
          have n0_ := sk_' (pp_' (bm HB) hb)
          clear HB
          have HB := n0_
          clear n0_
          (try clear hb)
          (try clear hb2)
          (try clear hk)
          (try clear hi)
          try go_wp2
          go_roundg k1
          case measure => have := HK1.out; omega
          case rel => exact ⟨(wrap64 (x3_1 + 1)), rfl, H', ⟨by have := HK1.out; omega⟩, ⟨bm HB⟩⟩
         replace c11 := Bool.eq_false_iff.mpr c11
         subst c11
         rw [if_neg (show ¬ (false = true) by decide)] at H
         obtain rfl := Option.some.inj H
         try go_wp2
         have n0_ := sk_' (pd_' HB.out)
         clear HB
         have HB := n0_
         clear n0_
         have p499 : 0 ≤ (x3_1 : Int) := od_' (by first | (with_reducible assumption) | assumption)
         have q499 : x3_1 < (l0.length : Int) := od_' (by first | (with_reducible assumption) | assumption)
         obtain ⟨ad499, e499, hx499_0, hx499_1, hx499_2, hx499_3⟩ := at_T118 HR0.out x3_1 p499 q499
         have hw499_3 := hx499_3
         have hw499_2 := hx499_2
         have hw499_1 := hx499_1
         have hw499_0 := hx499_0
         cases e499
         replace hx499_0 := (HB.out.cell (bq_' w _ hx499_0)).trans hx499_0
         replace hx499_1 := (HB.out.cell (bq_' w _ hx499_1)).trans hx499_1
         replace hx499_2 := (HB.out.cell (bq_' w _ hx499_2)).trans hx499_2
         replace hx499_3 := (HB.out.cell (bq_' w _ hx499_3)).trans hx499_3
         replace p499 := eq_true p499
         replace q499 := eq_true q499
         have p501 : 0 ≤ ((ji7) : Int) := od_' (by first | (with_reducible assumption) | assumption)
         have q501 : (ji7) < (l0.length : Int) := od_' (by first | (with_reducible assumption) | assumption)
         obtain ⟨ad501, e501, hx501_0, hx501_1, hx501_2, hx501_3⟩ := at_T118 HR0.out (ji7) p501 q501
         have hw501_3 := hx501_3
         have hw501_2 := hx501_2
         have hw501_1 := hx501_1
         have hw501_0 := hx501_0
         obtain rfl : ad499 = ad501 := (by injection e501)
         replace hx501_0 := (HB.out.cell (bq_' w _ hx501_0)).trans hx501_0
         replace hx501_1 := (HB.out.cell (bq_' w _ hx501_1)).trans hx501_1
         replace hx501_2 := (HB.out.cell (bq_' w _ hx501_2)).trans hx501_2
         replace hx501_3 := (HB.out.cell (bq_' w _ hx501_3)).trans hx501_3
         replace p501 := eq_true p501
         replace q501 := eq_true q501
         have p502 : 0 ≤ (x3_1 : Int) := od_' (by first | (with_reducible assumption) | assumption)
         have q502 : x3_1 < (l0.length : Int) := od_' (by first | (with_reducible assumption) | assumption)
         obtain ⟨ad502, e502, hx502_0, hx502_1, hx502_2, hx502_3⟩ := at_T118 HR0.out x3_1 p502 q502
         have hw502_3 := hx502_3
         have hw502_2 := hx502_2
         have hw502_1 := hx502_1
         have hw502_0 := hx502_0
         obtain rfl : ad499 = ad502 := (by injection e502)
         replace hx502_0 := (HB.out.cell (bq_' w _ hx502_0)).trans hx502_0
         replace hx502_1 := (HB.out.cell (bq_' w _ hx502_1)).trans hx502_1
         replace hx502_2 := (HB.out.cell (bq_' w _ hx502_2)).trans hx502_2
         replace hx502_3 := (HB.out.cell (bq_' w _ hx502_3)).trans hx502_3
         replace p502 := eq_true p502
         replace q502 := eq_true q502
         refine BelowW.region (by kernel_rfl) (by kernel_rfl) ?_
         have hq0_ : wr.drew.cell? (ad499.add ((x3_1).toNat * 4)) = some (.int .i64 ((rd_T118 l0 x3_1).f0)) := ((HB.out.cell (bq_' w _ hw499_0)).trans hw499_0)
         have hq1_ : wr.drew.cell? ⟨(ad499.add ((x3_1).toNat * 4)).block, (ad499.add ((x3_1).toNat * 4)).off + 1, none⟩ = some (.int .i64 ((rd_T118 l0 x3_1).f1)) := ((HB.out.cell (bq_' w _ hw499_1)).trans hw499_1)
         have hq2_ : wr.drew.cell? ⟨(ad499.add ((x3_1).toNat * 4)).block, (ad499.add ((x3_1).toNat * 4)).off + 2, none⟩ = some (.int .i64 ((rd_T118 l0 x3_1).f2)) := ((HB.out.cell (bq_' w _ hw499_2)).trans hw499_2)
         have hq3_ : wr.drew.cell? ⟨(ad499.add ((x3_1).toNat * 4)).block, (ad499.add ((x3_1).toNat * 4)).off + 3, none⟩ = some (.int .i64 ((rd_T118 l0 x3_1).f3)) := ((HB.out.cell (bq_' w _ hw499_3)).trans hw499_3)
         have hq4_ : wr.drew.cell? (ad499.add (((ji7)).toNat * 4)) = some (.int .i64 ((rd_T118 l0 (ji7)).f0)) := ((HB.out.cell (bq_' w _ hw501_0)).trans hw501_0)
         have hq5_ : wr.drew.cell? ⟨(ad499.add (((ji7)).toNat * 4)).block, (ad499.add (((ji7)).toNat * 4)).off + 1, none⟩ = some (.int .i64 ((rd_T118 l0 (ji7)).f1)) := ((HB.out.cell (bq_' w _ hw501_1)).trans hw501_1)
         have hq6_ : wr.drew.cell? ⟨(ad499.add (((ji7)).toNat * 4)).block, (ad499.add (((ji7)).toNat * 4)).off + 2, none⟩ = some (.int .i64 ((rd_T118 l0 (ji7)).f2)) := ((HB.out.cell (bq_' w _ hw501_2)).trans hw501_2)
         have hq7_ : wr.drew.cell? ⟨(ad499.add (((ji7)).toNat * 4)).block, (ad499.add (((ji7)).toNat * 4)).off + 3, none⟩ = some (.int .i64 ((rd_T118 l0 (ji7)).f3)) := ((HB.out.cell (bq_' w _ hw501_3)).trans hw501_3)
         have hq8_ : wr.drew.cell? (ad499.add ((x3_1).toNat * 4)) = some (.int .i64 ((rd_T118 l0 x3_1).f0)) := ((HB.out.cell (bq_' w _ hw502_0)).trans hw502_0)
         have hq9_ : wr.drew.cell? ⟨(ad499.add ((x3_1).toNat * 4)).block, (ad499.add ((x3_1).toNat * 4)).off + 1, none⟩ = some (.int .i64 ((rd_T118 l0 x3_1).f1)) := ((HB.out.cell (bq_' w _ hw502_1)).trans hw502_1)
         have hq10_ : wr.drew.cell? ⟨(ad499.add ((x3_1).toNat * 4)).block, (ad499.add ((x3_1).toNat * 4)).off + 2, none⟩ = some (.int .i64 ((rd_T118 l0 x3_1).f2)) := ((HB.out.cell (bq_' w _ hw502_2)).trans hw502_2)
         have hq11_ : wr.drew.cell? ⟨(ad499.add ((x3_1).toNat * 4)).block, (ad499.add ((x3_1).toNat * 4)).off + 3, none⟩ = some (.int .i64 ((rd_T118 l0 x3_1).f3)) := ((HB.out.cell (bq_' w _ hw502_3)).trans hw502_3)
         generalize wr.drew = w15 at HB hx499_0 hx499_1 hx499_2 hx499_3 hx501_0 hx501_1 hx501_2 hx501_3 hx502_0 hx502_1 hx502_2 hx502_3 hq0_ hq1_ hq2_ hq3_ hq4_ hq5_ hq6_ hq7_ hq8_ hq9_ hq10_ hq11_ ⊢
         replace hq0_ := BelowW.at hq0_
         replace hq1_ := BelowW.at hq1_
         replace hq2_ := BelowW.at hq2_
         replace hq3_ := BelowW.at hq3_
         replace hq4_ := BelowW.at hq4_
         replace hq5_ := BelowW.at hq5_
         replace hq6_ := BelowW.at hq6_
         replace hq7_ := BelowW.at hq7_
         replace hq8_ := BelowW.at hq8_
         replace hq9_ := BelowW.at hq9_
         replace hq10_ := BelowW.at hq10_
         replace hq11_ := BelowW.at hq11_
         change wpQuiet _ _ _ _ (List.cons _ _) _
         repeat (go_big_quiet_step (first | (go_at_call 132; (with_reducible refine (spec_l8Ok.calls ((rd_T118 l0 x3_1).f0) ((rd_T118 l0 x3_1).f1) ((rd_T118 l0 x3_1).f2) ((rd_T118 l0 x3_1).f3) true _ A4.out).mono ?_); exact fun _ _ h_ => ⟨h_.1, BelowW.step _ h_.2⟩) | (go_at_call 133; (with_reducible refine (spec_l8Before.calls ((rd_T118 l0 (ji7)).f0) ((rd_T118 l0 (ji7)).f1) ((rd_T118 l0 (ji7)).f2) ((rd_T118 l0 (ji7)).f3) ((rd_T118 l0 x3_1).f0) ((rd_T118 l0 x3_1).f1) ((rd_T118 l0 x3_1).f2) ((rd_T118 l0 x3_1).f3) false _ A10.out).mono ?_); exact fun _ _ h_ => ⟨h_.1, BelowW.step _ h_.2⟩)))
         refine wpQuiet_nil ?_
         intro w17 hb
         try simp only [i64_w, i32_w]
         clear hq0_ hq1_ hq2_ hq3_ hq4_ hq5_ hq6_ hq7_ hq8_ hq9_ hq10_ hq11_
         have n0_ := sk_' (pp_' (bm HB) hb)
         clear HB
         have HB := n0_
         clear n0_
         (try clear hb)
         (try clear hb2)
         (try clear hk)
         (try clear hi)
         try go_wp2
         go_ret
         exact ⟨by first | rfl | (simp [errW_none, errW_some] <;> rfl) | (simp only [← hji7]; first | rfl | (simp [errW_none, errW_some] <;> rfl)) | (simp [*, errW_none, errW_some] <;> rfl), bm HB⟩
        rw [if_neg c9] at H
        exact absurd H (by simp)
       rw [if_neg c8] at H
       exact absurd H (by simp)
      rw [if_neg c6] at H
      have c6b0 : decide (0 < x3_1) = false := decide_eq_false c6
      clear c6
      have H' := sk_' H
      clear H
      try go_wp2
      have n0_ := sk_' (pd_' HB.out)
      clear HB
      have HB := n0_
      clear n0_
      have p499 : 0 ≤ (x3_1 : Int) := od_' (by first | (with_reducible assumption) | assumption)
      have q499 : x3_1 < (l0.length : Int) := od_' (by first | (with_reducible assumption) | assumption)
      obtain ⟨ad499, e499, hx499_0, hx499_1, hx499_2, hx499_3⟩ := at_T118 HR0.out x3_1 p499 q499
      have hw499_3 := hx499_3
      have hw499_2 := hx499_2
      have hw499_1 := hx499_1
      have hw499_0 := hx499_0
      cases e499
      replace hx499_0 := (HB.out.cell (bq_' w _ hx499_0)).trans hx499_0
      replace hx499_1 := (HB.out.cell (bq_' w _ hx499_1)).trans hx499_1
      replace hx499_2 := (HB.out.cell (bq_' w _ hx499_2)).trans hx499_2
      replace hx499_3 := (HB.out.cell (bq_' w _ hx499_3)).trans hx499_3
      replace p499 := eq_true p499
      replace q499 := eq_true q499
      refine BelowW.region (by kernel_rfl) (by kernel_rfl) ?_
      have hq0_ : wr.drew.cell? (ad499.add ((x3_1).toNat * 4)) = some (.int .i64 ((rd_T118 l0 x3_1).f0)) := ((HB.out.cell (bq_' w _ hw499_0)).trans hw499_0)
      have hq1_ : wr.drew.cell? ⟨(ad499.add ((x3_1).toNat * 4)).block, (ad499.add ((x3_1).toNat * 4)).off + 1, none⟩ = some (.int .i64 ((rd_T118 l0 x3_1).f1)) := ((HB.out.cell (bq_' w _ hw499_1)).trans hw499_1)
      have hq2_ : wr.drew.cell? ⟨(ad499.add ((x3_1).toNat * 4)).block, (ad499.add ((x3_1).toNat * 4)).off + 2, none⟩ = some (.int .i64 ((rd_T118 l0 x3_1).f2)) := ((HB.out.cell (bq_' w _ hw499_2)).trans hw499_2)
      have hq3_ : wr.drew.cell? ⟨(ad499.add ((x3_1).toNat * 4)).block, (ad499.add ((x3_1).toNat * 4)).off + 3, none⟩ = some (.int .i64 ((rd_T118 l0 x3_1).f3)) := ((HB.out.cell (bq_' w _ hw499_3)).trans hw499_3)
      generalize wr.drew = w18 at HB hx499_0 hx499_1 hx499_2 hx499_3 hq0_ hq1_ hq2_ hq3_ ⊢
      replace hq0_ := BelowW.at hq0_
      replace hq1_ := BelowW.at hq1_
      replace hq2_ := BelowW.at hq2_
      replace hq3_ := BelowW.at hq3_
      change wpQuiet _ _ _ _ (List.cons _ _) _
      repeat (go_big_quiet_step (first | (go_at_call 132; (with_reducible refine (spec_l8Ok.calls ((rd_T118 l0 x3_1).f0) ((rd_T118 l0 x3_1).f1) ((rd_T118 l0 x3_1).f2) ((rd_T118 l0 x3_1).f3) true _ A4.out).mono ?_); exact fun _ _ h_ => ⟨h_.1, BelowW.step _ h_.2⟩)))
      refine wpQuiet_nil ?_
      intro w19 hb
      try simp only [i64_w, i32_w]
      clear hq0_ hq1_ hq2_ hq3_
      have n0_ := sk_' (pp_' (bm HB) hb)
      clear HB
      have HB := n0_
      clear n0_
      (try clear hb)
      (try clear hb2)
      (try clear hk)
      (try clear hi)
      try go_wp2
      go_roundg k1
      case measure => have := HK1.out; omega
      case rel => exact ⟨(wrap64 (x3_1 + 1)), rfl, H', ⟨by have := HK1.out; omega⟩, ⟨bm HB⟩⟩
     replace c5 := Bool.eq_false_iff.mpr c5
     subst c5
     rw [if_neg (show ¬ (false = true) by decide)] at H
     obtain rfl := Option.some.inj H
     try go_wp2
     have n0_ := sk_' (pd_' HB.out)
     clear HB
     have HB := n0_
     clear n0_
     have p499 : 0 ≤ (x3_1 : Int) := od_' (by first | (with_reducible assumption) | assumption)
     have q499 : x3_1 < (l0.length : Int) := od_' (by first | (with_reducible assumption) | assumption)
     obtain ⟨ad499, e499, hx499_0, hx499_1, hx499_2, hx499_3⟩ := at_T118 HR0.out x3_1 p499 q499
     have hw499_3 := hx499_3
     have hw499_2 := hx499_2
     have hw499_1 := hx499_1
     have hw499_0 := hx499_0
     cases e499
     replace hx499_0 := (HB.out.cell (bq_' w _ hx499_0)).trans hx499_0
     replace hx499_1 := (HB.out.cell (bq_' w _ hx499_1)).trans hx499_1
     replace hx499_2 := (HB.out.cell (bq_' w _ hx499_2)).trans hx499_2
     replace hx499_3 := (HB.out.cell (bq_' w _ hx499_3)).trans hx499_3
     replace p499 := eq_true p499
     replace q499 := eq_true q499
     refine BelowW.region (by kernel_rfl) (by kernel_rfl) ?_
     have hq0_ : wr.drew.cell? (ad499.add ((x3_1).toNat * 4)) = some (.int .i64 ((rd_T118 l0 x3_1).f0)) := ((HB.out.cell (bq_' w _ hw499_0)).trans hw499_0)
     have hq1_ : wr.drew.cell? ⟨(ad499.add ((x3_1).toNat * 4)).block, (ad499.add ((x3_1).toNat * 4)).off + 1, none⟩ = some (.int .i64 ((rd_T118 l0 x3_1).f1)) := ((HB.out.cell (bq_' w _ hw499_1)).trans hw499_1)
     have hq2_ : wr.drew.cell? ⟨(ad499.add ((x3_1).toNat * 4)).block, (ad499.add ((x3_1).toNat * 4)).off + 2, none⟩ = some (.int .i64 ((rd_T118 l0 x3_1).f2)) := ((HB.out.cell (bq_' w _ hw499_2)).trans hw499_2)
     have hq3_ : wr.drew.cell? ⟨(ad499.add ((x3_1).toNat * 4)).block, (ad499.add ((x3_1).toNat * 4)).off + 3, none⟩ = some (.int .i64 ((rd_T118 l0 x3_1).f3)) := ((HB.out.cell (bq_' w _ hw499_3)).trans hw499_3)
     generalize wr.drew = w20 at HB hx499_0 hx499_1 hx499_2 hx499_3 hq0_ hq1_ hq2_ hq3_ ⊢
     replace hq0_ := BelowW.at hq0_
     replace hq1_ := BelowW.at hq1_
     replace hq2_ := BelowW.at hq2_
     replace hq3_ := BelowW.at hq3_
     change wpQuiet _ _ _ _ (List.cons _ _) _
     repeat (go_big_quiet_step (first | (go_at_call 132; (with_reducible refine (spec_l8Ok.calls ((rd_T118 l0 x3_1).f0) ((rd_T118 l0 x3_1).f1) ((rd_T118 l0 x3_1).f2) ((rd_T118 l0 x3_1).f3) false _ A4.out).mono ?_); exact fun _ _ h_ => ⟨h_.1, BelowW.step _ h_.2⟩)))
     refine wpQuiet_nil ?_
     intro w21 hb
     try simp only [i64_w, i32_w]
     clear hq0_ hq1_ hq2_ hq3_
     have n0_ := sk_' (pp_' (bm HB) hb)
     clear HB
     have HB := n0_
     clear n0_
     (try clear hb)
     (try clear hb2)
     (try clear hk)
     (try clear hi)
     try go_wp2
     go_ret
     exact ⟨rfl, bm HB⟩
    rw [if_neg c3] at H
    exact absurd H (by simp)
   rw [if_neg c2] at H
   have c2b0 : decide (x3_1 < (l0.length : Int)) = false := decide_eq_false c2
   clear c2
   obtain rfl := Option.some.inj H
   go_wp2
   go_ret
   exact ⟨rfl, bm HB⟩
end Go.Proofs.Ytiophiipmgpaeaa.F

namespace Go.Proofs.Ytiophiipmgpaeaa.F
open Go.RowKit Go.Proofs.YtiophiipmgpaeaaW.PrintWords Go.Proofs.YtiophiipmgpaeaaW.PrintLast Go.Proofs.YtiophiipmgpaeaaW.PrintMore
attribute [local go_sem] max2_int min2_int max_two min_two max_three min_three max_four min_four
set_option linter.unusedVariables false
set_option linter.unusedSimpArgs false
def spec_IsTempo.l0 : Nat → List (S140) → Int → Option (Bool)
 | 0, _, _ => none
 | k + 1, x0, x3 => if x3 < (x0.length : Int) then (if 0 ≤ x3 then ((spec_l1In.f ((rd_T140 x0 x3).f1) 20 300).bind fun t940 => (if t940 = true then ((spec_l1In.f ((rd_T140 x0 x3).f0) 0 2000).bind fun t942 => (if t942 = true then (if x3 = 0 then (if ((rd_T140 x0 x3).f0) = 0 then (if x3 > 0 then (if 0 ≤ (wrap64 (x3 - 1)) then (if (wrap64 (x3 - 1)) < (x0.length : Int) then (if ((rd_T140 x0 (wrap64 (x3 - 1))).f0) ≥ ((rd_T140 x0 x3).f0) then (some false) else (spec_IsTempo.l0 k x0 (wrap64 (x3 + 1)))) else (none)) else (none)) else (spec_IsTempo.l0 k x0 (wrap64 (x3 + 1)))) else (some false)) else (if x3 > 0 then (if 0 ≤ (wrap64 (x3 - 1)) then (if (wrap64 (x3 - 1)) < (x0.length : Int) then (if ((rd_T140 x0 (wrap64 (x3 - 1))).f0) ≥ ((rd_T140 x0 x3).f0) then (some false) else (spec_IsTempo.l0 k x0 (wrap64 (x3 + 1)))) else (none)) else (none)) else (spec_IsTempo.l0 k x0 (wrap64 (x3 + 1))))) else (some false))) else (some false))) else (none)) else ((spec_l1In.f (x0.length : Int) 1 8).bind fun t938 => (some t938))
def spec_IsTempo.f (k : Nat) (l0 : List (S140)) : Option (Bool) := spec_IsTempo.l0 k l0 0
def spec_IsTempo.T4 : Bool × List (List Nat × List Nat) := (true, [([], []), ([], []), ([0, 1], [0, 1]), ([2], [2]), ([3], [3]), ([4], [4]), ([5], [5]), ([6, 5], [6]), ([7], [7]), ([7], [7]), ([8, 9, 7], [7, 8, 9]), ([10, 7], [7, 10]), ([11, 7], [7, 11]), ([12, 7, 7], [7, 12]), ([13, 7], [7, 13]), ([7, 14], [7, 14]), ([15, 13], [15]), ([16], [16]), ([17, 16], [16, 17]), ([18, 16, 16], [16, 18]), ([19], [19]), ([19], [19]), ([20, 21, 19], [19, 20, 21]), ([22, 19], [19, 22]), ([23, 19], [19, 23]), ([24, 19], [19, 24]), ([19, 25, 16], [16, 19, 25]), ([16, 26], [16, 26]), ([27, 19], [27]), ([28], [28]), ([29, 28], [28, 29]), ([30, 28, 28], [28, 30]), ([31], [31]), ([31], [31]), ([33, 31], [31, 33]), ([32, 34, 31], [31, 32, 34]), ([35, 31], [31, 35]), ([36, 31], [31, 36]), ([31], [31]), ([31], [31]), ([38, 39, 31], [31, 38, 39]), ([40, 31], [31, 40]), ([41, 31], [31, 41]), ([37, 42, 31], [31, 37, 42]), ([31, 43, 28], [28, 31, 43]), ([28, 44], [28, 44])])
def spec_IsTempo.B4 : List Nat := [0, 0, 3, 7, 15, 31, 63, 127, 255, 255, 1023, 2047, 4095, 8191, 16383, 32767, 65535, 131071, 262143, 524287, 1048575, 1048575, 4194303, 8388607, 16777215, 33554431, 67108863, 134217727, 268435455, 536870911, 1073741823, 2147483647, 4294967295, 4294967295, 12884901887, 34359738367, 68719476735, 137438953471, 4294967295, 4294967295, 828928688127, 1928440315903, 4127463571455, 8796093022207, 17592186044415, 35184372088831]
theorem spec_IsTempo.tab4 : rtab .any (opsOf Try.f145 4) = spec_IsTempo.T4 := by kernel_rfl
theorem spec_IsTempo.bits4 : waitsOk spec_IsTempo.T4.2 spec_IsTempo.B4 = true := by kernel_rfl
set_option maxHeartbeats 8000000 in
set_option maxRecDepth 100000 in
theorem spec_IsTempo.calls (k : Nat) (A0 : Option Addr) (c0 : Nat) (l0 : List (S140)) (r : Bool) (w : World) (hr0 : Kd.C k140 w A0 l0.length l0) (hc0 : l0.length ≤ c0) (h : spec_IsTempo.f k l0 = some r) :
  Calls Try.prog 145 #[.slice A0 l0.length c0] w fun e w' => e = .returned (.bool r) ∧ Below w.heap.size w w' := by
 have HR0 := sk_' hr0
 have HC0 := sk_' hc0
 clear hr0 hc0
 have HB := sk_' (Below.refl w.heap.size w)
 have H : (spec_IsTempo.l0 k l0 0) = some r := h
 clear h
 have H' := sk_' H
 clear H
 go_enter Try.func145, Try.ntmps145
 go_wp2
 go_loopg [3] k (fun kq v3 w' => ∃ (x3_1 : Int), v3 = .int .i64 x3_1 ∧ Aside0 (spec_IsTempo.l0 kq l0 x3_1 = some r) ∧ Aside0 (kq ≤ k) ∧ Aside0 (Below w.heap.size w w'))
 case atStart => exact ⟨(0), rfl, H', ⟨Nat.le_refl _⟩, ⟨bm HB⟩⟩
 case round =>
  clear H'
  try clear c1
  obtain ⟨x3_1, rfl, HA, HK1, HB⟩ := hrel
  cases gk with
  | zero => exact absurd HA.out (by simp [spec_IsTempo.l0])
  | succ k1 =>
   have H := HA.out
   clear HA
   simp only [spec_IsTempo.l0] at H
   by_cases c2 : x3_1 < (l0.length : Int)
   ·
    rw [if_pos c2] at H
    have c2b0 : decide (x3_1 < (l0.length : Int)) = true := decide_eq_true c2
    clear c2
    by_cases c3 : 0 ≤ x3_1
    ·
     rw [if_pos c3] at H
     have c3b0 : decide (0 ≤ x3_1) = true := decide_eq_true c3
     clear c3
     replace H := bs_' H
     obtain ⟨t940, A40, H⟩ := H
     try dsimp only at H
     have A4 := sk_' A40
     clear A40
     by_cases c5 : t940 = true
     ·
      subst c5
      rw [if_pos rfl] at H
      replace H := bs_' H
      obtain ⟨t942, A60, H⟩ := H
      try dsimp only at H
      have A6 := sk_' A60
      clear A60
      by_cases c7 : t942 = true
      ·
       subst c7
       rw [if_pos rfl] at H
       by_cases c8 : x3_1 = 0
       ·
        rw [if_pos c8] at H
        have c8b0 : (x3_1 == 0) = true := beq_iff_eq.mpr c8
        have c8b1 : (x3_1 != 0) = false := bne_eq_false_iff_eq.mpr c8
        clear c8
        by_cases c9 : ((rd_T140 l0 x3_1).f0) = 0
        ·
         rw [if_pos c9] at H
         have c9b0 : (((rd_T140 l0 x3_1).f0) == 0) = true := beq_iff_eq.mpr c9
         have c9b1 : (((rd_T140 l0 x3_1).f0) != 0) = false := bne_eq_false_iff_eq.mpr c9
         clear c9
         by_cases c10 : x3_1 > 0
         ·
          rw [if_pos c10] at H
          have c10b0 : decide (0 < x3_1) = true := decide_eq_true c10
          clear c10
          obtain ⟨ji11, hji11⟩ : ∃ j_ : Int, (wrap64 (x3_1 - 1)) = j_ := ⟨_, rfl⟩
          replace H : (if 0 ≤ (ji11) then (if (ji11) < (l0.length : Int) then (if ((rd_T140 l0 (ji11)).f0) ≥ ((rd_T140 l0 x3_1).f0) then (some false) else (spec_IsTempo.l0 k1 l0 (wrap64 (x3_1 + 1)))) else (none)) else (none)) = some r := by first | (rw [hji11] at H; exact H) | (simp only [hji11] at H ⊢; exact H)
          (try rw [hji11] at A4)
          (try rw [hji11] at A6)
          have hji11w : (IntKind.i64.wrap (x3_1 - 1)) = ji11 := (i64_w _).trans hji11
          by_cases c12 : 0 ≤ (ji11)
          ·
           rw [if_pos c12] at H
           have c12b0 : decide (0 ≤ (ji11)) = true := decide_eq_true c12
           clear c12
           by_cases c13 : (ji11) < (l0.length : Int)
           ·
            rw [if_pos c13] at H
            have c13b0 : decide ((ji11) < (l0.length : Int)) = true := decide_eq_true c13
            clear c13
            by_cases c14 : ((rd_T140 l0 (ji11)).f0) ≥ ((rd_T140 l0 x3_1).f0)
            ·
             rw [if_pos c14] at H
             have c14b0 : decide (((rd_T140 l0 x3_1).f0) ≤ ((rd_T140 l0 (ji11)).f0)) = true := decide_eq_true c14
             clear c14
             obtain rfl := Option.some.inj H
             try go_wp2
             have n0_ := sk_' (pd_' HB.out)
             clear HB
             have HB := n0_
             clear n0_
             have p939 : 0 ≤ (x3_1 : Int) := od_' (by first | (with_reducible assumption) | assumption)
             have q939 : x3_1 < (l0.length : Int) := od_' (by first | (with_reducible assumption) | assumption)
             obtain ⟨ad939, e939, hx939_0, hx939_1⟩ := at_T140 HR0.out x3_1 p939 q939
             have hw939_1 := hx939_1
             have hw939_0 := hx939_0
             cases e939
             replace hx939_0 := (HB.out.cell (bq_' w _ hx939_0)).trans hx939_0
             replace hx939_1 := (HB.out.cell (bq_' w _ hx939_1)).trans hx939_1
             replace p939 := eq_true p939
             replace q939 := eq_true q939
             have p941 : 0 ≤ (x3_1 : Int) := od_' (by first | (with_reducible assumption) | assumption)
             have q941 : x3_1 < (l0.length : Int) := od_' (by first | (with_reducible assumption) | assumption)
             obtain ⟨ad941, e941, hx941_0, hx941_1⟩ := at_T140 HR0.out x3_1 p941 q941
             have hw941_1 := hx941_1
             have hw941_0 := hx941_0
             obtain rfl : ad939 = ad941 := (by injection e941)
             replace hx941_0 := (HB.out.cell (bq_' w _ hx941_0)).trans hx941_0
             replace hx941_1 := (HB.out.cell (bq_' w _ hx941_1)).trans hx941_1
             replace p941 := eq_true p941
             replace q941 := eq_true q941
             have p943 : 0 ≤ (x3_1 : Int) := od_' (by first | (with_reducible assumption) | assumption)
             have q943 : x3_1 < (l0.length : Int) := od_' (by first | (with_reducible assumption) | assumption)
             obtain ⟨ad943, e943, hx943_0, hx943_1⟩ := at_T140 HR0.out x3_1 p943 q943
             have hw943_1 := hx943_1
             have hw943_0 := hx943_0
             obtain rfl : ad939 = ad943 := (by injection e943)
             replace hx943_0 := (HB.out.cell (bq_' w _ hx943_0)).trans hx943_0
             replace hx943_1 := (HB.out.cell (bq_' w _ hx943_1)).trans hx943_1
             replace p943 := eq_true p943
             replace q943 := eq_true q943
             have p944 : 0 ≤ ((ji11) : Int) := od_' (by first | (with_reducible assumption) | assumption)
             have q944 : (ji11) < (l0.length : Int) := od_' (by first | (with_reducible assumption) | assumption)
             obtain ⟨ad944, e944, hx944_0, hx944_1⟩ := at_T140 HR0.out (ji11) p944 q944
             have hw944_1 := hx944_1
             have hw944_0 := hx944_0
             obtain rfl : ad939 = ad944 := (by injection e944)
             replace hx944_0 := (HB.out.cell (bq_' w _ hx944_0)).trans hx944_0
             replace hx944_1 := (HB.out.cell (bq_' w _ hx944_1)).trans hx944_1
             replace p944 := eq_true p944
             replace q944 := eq_true q944
             have p945 : 0 ≤ (x3_1 : Int) := od_' (by first | (with_reducible assumption) | assumption)
             have q945 : x3_1 < (l0.length : Int) := od_' (by first | (with_reducible assumption) | assumption)
             obtain ⟨ad945, e945, hx945_0, hx945_1⟩ := at_T140 HR0.out x3_1 p945 q945
             have hw945_1 := hx945_1
             have hw945_0 := hx945_0
             obtain rfl : ad939 = ad945 := (by injection e945)
             replace hx945_0 := (HB.out.cell (bq_' w _ hx945_0)).trans hx945_0
             replace hx945_1 := (HB.out.cell (bq_' w _ hx945_1)).trans hx945_1
             replace p945 := eq_true p945
             replace q945 := eq_true q945
             have hq0_ : wr.cell? (ad939.add ((x3_1).toNat * 2)) = some (.int .i64 ((rd_T140 l0 x3_1).f0)) := ((HB.out.cell (bq_' w _ hw939_0)).trans hw939_0)
             have hq1_ : wr.cell? ⟨(ad939.add ((x3_1).toNat * 2)).block, (ad939.add ((x3_1).toNat * 2)).off + 1, none⟩ = some (.int .i64 ((rd_T140 l0 x3_1).f1)) := ((HB.out.cell (bq_' w _ hw939_1)).trans hw939_1)
             have hq2_ : wr.cell? (ad939.add ((x3_1).toNat * 2)) = some (.int .i64 ((rd_T140 l0 x3_1).f0)) := ((HB.out.cell (bq_' w _ hw941_0)).trans hw941_0)
             have hq3_ : wr.cell? ⟨(ad939.add ((x3_1).toNat * 2)).block, (ad939.add ((x3_1).toNat * 2)).off + 1, none⟩ = some (.int .i64 ((rd_T140 l0 x3_1).f1)) := ((HB.out.cell (bq_' w _ hw941_1)).trans hw941_1)
             have hq4_ : wr.cell? (ad939.add ((x3_1).toNat * 2)) = some (.int .i64 ((rd_T140 l0 x3_1).f0)) := ((HB.out.cell (bq_' w _ hw943_0)).trans hw943_0)
             have hq5_ : wr.cell? ⟨(ad939.add ((x3_1).toNat * 2)).block, (ad939.add ((x3_1).toNat * 2)).off + 1, none⟩ = some (.int .i64 ((rd_T140 l0 x3_1).f1)) := ((HB.out.cell (bq_' w _ hw943_1)).trans hw943_1)
             have hq6_ : wr.cell? (ad939.add (((ji11)).toNat * 2)) = some (.int .i64 ((rd_T140 l0 (ji11)).f0)) := ((HB.out.cell (bq_' w _ hw944_0)).trans hw944_0)
             have hq7_ : wr.cell? ⟨(ad939.add (((ji11)).toNat * 2)).block, (ad939.add (((ji11)).toNat * 2)).off + 1, none⟩ = some (.int .i64 ((rd_T140 l0 (ji11)).f1)) := ((HB.out.cell (bq_' w _ hw944_1)).trans hw944_1)
             have hq8_ : wr.cell? (ad939.add ((x3_1).toNat * 2)) = some (.int .i64 ((rd_T140 l0 x3_1).f0)) := ((HB.out.cell (bq_' w _ hw945_0)).trans hw945_0)
             have hq9_ : wr.cell? ⟨(ad939.add ((x3_1).toNat * 2)).block, (ad939.add ((x3_1).toNat * 2)).off + 1, none⟩ = some (.int .i64 ((rd_T140 l0 x3_1).f1)) := ((HB.out.cell (bq_' w _ hw945_1)).trans hw945_1)
             go_quiet ((first | (go_at_call 80; apply Calls.quiet_of; ((with_reducible refine (spec_l1In.calls ((rd_T140 l0 x3_1).f1) 20 300 true _ A4.out).mono ?_); exact fun _ _ h_ => ⟨h_.1, h_.2.out⟩)) | (go_at_call 80; apply Calls.quiet_of; ((with_reducible refine (spec_l1In.calls ((rd_T140 l0 x3_1).f0) 0 2000 true _ A6.out).mono ?_); exact fun _ _ h_ => ⟨h_.1, h_.2.out⟩))))
             have nHB_ := sk_' (pn_' (W := wr) ⟨HB.out.os, HB.out.tape, HB.out.output, HB.out.size, HB.out.block⟩ nq)
             have nhx939_0_ : (wr.drewN nq).cell? _ = _ := hx939_0
             have nhx939_1_ : (wr.drewN nq).cell? _ = _ := hx939_1
             have nhx941_0_ : (wr.drewN nq).cell? _ = _ := hx941_0
             have nhx941_1_ : (wr.drewN nq).cell? _ = _ := hx941_1
             have nhx943_0_ : (wr.drewN nq).cell? _ = _ := hx943_0
             have nhx943_1_ : (wr.drewN nq).cell? _ = _ := hx943_1
             have nhx944_0_ : (wr.drewN nq).cell? _ = _ := hx944_0
             have nhx944_1_ : (wr.drewN nq).cell? _ = _ := hx944_1
             have nhx945_0_ : (wr.drewN nq).cell? _ = _ := hx945_0
             have nhx945_1_ : (wr.drewN nq).cell? _ = _ := hx945_1
             clear HB hx939_0 hx939_1 hx941_0 hx941_1 hx943_0 hx943_1 hx944_0 hx944_1 hx945_0 hx945_1 hq0_ hq1_ hq2_ hq3_ hq4_ hq5_ hq6_ hq7_ hq8_ hq9_
             have HB := nHB_
             have hx939_0 := nhx939_0_
             have hx939_1 := nhx939_1_
             have hx941_0 := nhx941_0_
             have hx941_1 := nhx941_1_
             have hx943_0 := nhx943_0_
             have hx943_1 := nhx943_1_
             have hx944_0 := nhx944_0_
             have hx944_1 := nhx944_1_
             have hx945_0 := nhx945_0_
             have hx945_1 := nhx945_1_
             clear nHB_ nhx939_0_ nhx939_1_ nhx941_0_ nhx941_1_ nhx943_0_ nhx943_1_ nhx944_0_ nhx944_1_ nhx945_0_ nhx945_1_
             generalize wr.drewN nq = w15 at HB hx939_0 hx939_1 hx941_0 hx941_1 hx943_0 hx943_1 hx944_0 hx944_1 hx945_0 hx945_1 ⊢
             try go_wp2
             go_ret
             exact ⟨by first | rfl | (simp [errW_none, errW_some] <;> rfl) | (simp only [← hji11]; first | rfl | (simp [errW_none, errW_some] <;> rfl)) | (simp [*, errW_none, errW_some] <;> rfl), bm HB⟩
            rw [if_neg c14] at H
            have c14b0 : decide (((rd_T140 l0 x3_1).f0) ≤ ((rd_T140 l0 (ji11)).f0)) = false := decide_eq_false c14
            clear c14
            have H' := sk_' H
            clear H
            try go_wp2
            have n0_ := sk_' (pd_' HB.out)
            clear HB
            have HB := n0_
            clear n0_
            have p939 : 0 ≤ (x3_1 : Int) := od_' (by first | (with_reducible assumption) | assumption)
            have q939 : x3_1 < (l0.length : Int) := od_' (by first | (with_reducible assumption) | assumption)
            obtain ⟨ad939, e939, hx939_0, hx939_1⟩ := at_T140 HR0.out x3_1 p939 q939
            have hw939_1 := hx939_1
            have hw939_0 := hx939_0
            cases e939
            replace hx939_0 := (HB.out.cell (bq_' w _ hx939_0)).trans hx939_0
            replace hx939_1 := (HB.out.cell (bq_' w _ hx939_1)).trans hx939_1
            replace p939 := eq_true p939
            replace q939 := eq_true q939
            have p941 : 0 ≤ (x3_1 : Int) := od_' (by first | (with_reducible assumption) | assumption)
            have q941 : x3_1 < (l0.length : Int) := od_' (by first | (with_reducible assumption) | assumption)
            obtain ⟨ad941, e941, hx941_0, hx941_1⟩ := at_T140 HR0.out x3_1 p941 q941
            have hw941_1 := hx941_1
            have hw941_0 := hx941_0
            obtain rfl : ad939 = ad941 := (by injection e941)
            replace hx941_0 := (HB.out.cell (bq_' w _ hx941_0)).trans hx941_0
            replace hx941_1 := (HB.out.cell (bq_' w _ hx941_1)).trans hx941_1
            replace p941 := eq_true p941
            replace q941 := eq_true q941
            have p943 : 0 ≤ (x3_1 : Int) := od_' (by first | (with_reducible assumption) | assumption)
            have q943 : x3_1 < (l0.length : Int) := od_' (by first | (with_reducible assumption) | assumption)
            obtain ⟨ad943, e943, hx943_0, hx943_1⟩ := at_T140 HR0.out x3_1 p943 q943
            have hw943_1 := hx943_1
            have hw943_0 := hx943_0
            obtain rfl : ad939 = ad943 := (by injection e943)
            replace hx943_0 := (HB.out.cell (bq_' w _ hx943_0)).trans hx943_0
            replace hx943_1 := (HB.out.cell (bq_' w _ hx943_1)).trans hx943_1
            replace p943 := eq_true p943
            replace q943 := eq_true q943
            have p944 : 0 ≤ ((ji11) : Int) := od_' (by first | (with_reducible assumption) | assumption)
            have q944 : (ji11) < (l0.length : Int) := od_' (by first | (with_reducible assumption) | assumption)
            obtain ⟨ad944, e944, hx944_0, hx944_1⟩ := at_T140 HR0.out (ji11) p944 q944
            have hw944_1 := hx944_1
            have hw944_0 := hx944_0
            obtain rfl : ad939 = ad944 := (by injection e944)
            replace hx944_0 := (HB.out.cell (bq_' w _ hx944_0)).trans hx944_0
            replace hx944_1 := (HB.out.cell (bq_' w _ hx944_1)).trans hx944_1
            replace p944 := eq_true p944
            replace q944 := eq_true q944
            have p945 : 0 ≤ (x3_1 : Int) := od_' (by first | (with_reducible assumption) | assumption)
            have q945 : x3_1 < (l0.length : Int) := od_' (by first | (with_reducible assumption) | assumption)
            obtain ⟨ad945, e945, hx945_0, hx945_1⟩ := at_T140 HR0.out x3_1 p945 q945
            have hw945_1 := hx945_1
            have hw945_0 := hx945_0
            obtain rfl : ad939 = ad945 := (by injection e945)
            replace hx945_0 := (HB.out.cell (bq_' w _ hx945_0)).trans hx945_0
            replace hx945_1 := (HB.out.cell (bq_' w _ hx945_1)).trans hx945_1
            replace p945 := eq_true p945
            replace q945 := eq_true q945
            have hq0_ : wr.cell? (ad939.add ((x3_1).toNat * 2)) = some (.int .i64 ((rd_T140 l0 x3_1).f0)) := ((HB.out.cell (bq_' w _ hw939_0)).trans hw939_0)
            have hq1_ : wr.cell? ⟨(ad939.add ((x3_1).toNat * 2)).block, (ad939.add ((x3_1).toNat * 2)).off + 1, none⟩ = some (.int .i64 ((rd_T140 l0 x3_1).f1)) := ((HB.out.cell (bq_' w _ hw939_1)).trans hw939_1)
            have hq2_ : wr.cell? (ad939.add ((x3_1).toNat * 2)) = some (.int .i64 ((rd_T140 l0 x3_1).f0)) := ((HB.out.cell (bq_' w _ hw941_0)).trans hw941_0)
            have hq3_ : wr.cell? ⟨(ad939.add ((x3_1).toNat * 2)).block, (ad939.add ((x3_1).toNat * 2)).off + 1, none⟩ = some (.int .i64 ((rd_T140 l0 x3_1).f1)) := ((HB.out.cell (bq_' w _ hw941_1)).trans hw941_1)
            have hq4_ : wr.cell? (ad939.add ((x3_1).toNat * 2)) = some (.int .i64 ((rd_T140 l0 x3_1).f0)) := ((HB.out.cell (bq_' w _ hw943_0)).trans hw943_0)
            have hq5_ : wr.cell? ⟨(ad939.add ((x3_1).toNat * 2)).block, (ad939.add ((x3_1).toNat * 2)).off + 1, none⟩ = some (.int .i64 ((rd_T140 l0 x3_1).f1)) := ((HB.out.cell (bq_' w _ hw943_1)).trans hw943_1)
            have hq6_ : wr.cell? (ad939.add (((ji11)).toNat * 2)) = some (.int .i64 ((rd_T140 l0 (ji11)).f0)) := ((HB.out.cell (bq_' w _ hw944_0)).trans hw944_0)
            have hq7_ : wr.cell? ⟨(ad939.add (((ji11)).toNat * 2)).block, (ad939.add (((ji11)).toNat * 2)).off + 1, none⟩ = some (.int .i64 ((rd_T140 l0 (ji11)).f1)) := ((HB.out.cell (bq_' w _ hw944_1)).trans hw944_1)
            have hq8_ : wr.cell? (ad939.add ((x3_1).toNat * 2)) = some (.int .i64 ((rd_T140 l0 x3_1).f0)) := ((HB.out.cell (bq_' w _ hw945_0)).trans hw945_0)
            have hq9_ : wr.cell? ⟨(ad939.add ((x3_1).toNat * 2)).block, (ad939.add ((x3_1).toNat * 2)).off + 1, none⟩ = some (.int .i64 ((rd_T140 l0 x3_1).f1)) := ((HB.out.cell (bq_' w _ hw945_1)).trans hw945_1)
            go_quiet ((first | (go_at_call 80; apply Calls.quiet_of; ((with_reducible refine (spec_l1In.calls ((rd_T140 l0 x3_1).f1) 20 300 true _ A4.out).mono ?_); exact fun _ _ h_ => ⟨h_.1, h_.2.out⟩)) | (go_at_call 80; apply Calls.quiet_of; ((with_reducible refine (spec_l1In.calls ((rd_T140 l0 x3_1).f0) 0 2000 true _ A6.out).mono ?_); exact fun _ _ h_ => ⟨h_.1, h_.2.out⟩))))
            have nHB_ := sk_' (pn_' (W := wr) ⟨HB.out.os, HB.out.tape, HB.out.output, HB.out.size, HB.out.block⟩ nq)
            have nhx939_0_ : (wr.drewN nq).cell? _ = _ := hx939_0
            have nhx939_1_ : (wr.drewN nq).cell? _ = _ := hx939_1
            have nhx941_0_ : (wr.drewN nq).cell? _ = _ := hx941_0
            have nhx941_1_ : (wr.drewN nq).cell? _ = _ := hx941_1
            have nhx943_0_ : (wr.drewN nq).cell? _ = _ := hx943_0
            have nhx943_1_ : (wr.drewN nq).cell? _ = _ := hx943_1
            have nhx944_0_ : (wr.drewN nq).cell? _ = _ := hx944_0
            have nhx944_1_ : (wr.drewN nq).cell? _ = _ := hx944_1
            have nhx945_0_ : (wr.drewN nq).cell? _ = _ := hx945_0
            have nhx945_1_ : (wr.drewN nq).cell? _ = _ := hx945_1
            clear HB hx939_0 hx939_1 hx941_0 hx941_1 hx943_0 hx943_1 hx944_0 hx944_1 hx945_0 hx945_1 hq0_ hq1_ hq2_ hq3_ hq4_ hq5_ hq6_ hq7_ hq8_ hq9_
            have HB := nHB_
            have hx939_0 := nhx939_0_
            have hx939_1 := nhx939_1_
            have hx941_0 := nhx941_0_
            have hx941_1 := nhx941_1_
            have hx943_0 := nhx943_0_
            have hx943_1 := nhx943_1_
            have hx944_0 := nhx944_0_
            have hx944_1 := nhx944_1_
            have hx945_0 := nhx945_0_
            have hx945_1 := nhx945_1_
            clear nHB_ nhx939_0_ nhx939_1_ nhx941_0_ nhx941_1_ nhx943_0_ nhx943_1_ nhx944_0_ nhx944_1_ nhx945_0_ nhx945_1_
            generalize wr.drewN nq = w16 at HB hx939_0 hx939_1 hx941_0 hx941_1 hx943_0 hx943_1 hx944_0 hx944_1 hx945_0 hx945_1 ⊢
            try go_wp2
            go_roundg k1
            case measure => have := HK1.out; omega
            case rel => exact ⟨(wrap64 (x3_1 + 1)), rfl, H', ⟨by have := HK1.out; omega⟩, ⟨bm HB⟩⟩
           rw [if_neg c13] at H
           exact absurd H (by simp)
          rw [if_neg c12] at H
          exact absurd H (by simp)
         rw [if_neg c10] at H
         have c10b0 : decide (0 < x3_1) = false := decide_eq_false c10
         clear c10
         have H' := sk_' H
         clear H
         try go_wp2
         have n0_ := sk_' (pd_' HB.out)
         clear HB
         have HB := n0_
         clear n0_
         have p939 : 0 ≤ (x3_1 : Int) := od_' (by first | (with_reducible assumption) | assumption)
         have q939 : x3_1 < (l0.length : Int) := od_' (by first | (with_reducible assumption) | assumption)
         obtain ⟨ad939, e939, hx939_0, hx939_1⟩ := at_T140 HR0.out x3_1 p939 q939
         have hw939_1 := hx939_1
         have hw939_0 := hx939_0
         cases e939
         replace hx939_0 := (HB.out.cell (bq_' w _ hx939_0)).trans hx939_0
         replace hx939_1 := (HB.out.cell (bq_' w _ hx939_1)).trans hx939_1
         replace p939 := eq_true p939
         replace q939 := eq_true q939
         have p941 : 0 ≤ (x3_1 : Int) := od_' (by first | (with_reducible assumption) | assumption)
         have q941 : x3_1 < (l0.length : Int) := od_' (by first | (with_reducible assumption) | assumption)
         obtain ⟨ad941, e941, hx941_0, hx941_1⟩ := at_T140 HR0.out x3_1 p941 q941
         have hw941_1 := hx941_1
         have hw941_0 := hx941_0
         obtain rfl : ad939 = ad941 := (by injection e941)
         replace hx941_0 := (HB.out.cell (bq_' w _ hx941_0)).trans hx941_0
         replace hx941_1 := (HB.out.cell (bq_' w _ hx941_1)).trans hx941_1
         replace p941 := eq_true p941
         replace q941 := eq_true q941
         have p943 : 0 ≤ (x3_1 : Int) := od_' (by first | (with_reducible assumption) | assumption)
         have q943 : x3_1 < (l0.length : Int) := od_' (by first | (with_reducible assumption) | assumption)
         obtain ⟨ad943, e943, hx943_0, hx943_1⟩ := at_T140 HR0.out x3_1 p943 q943
         have hw943_1 := hx943_1
         have hw943_0 := hx943_0
         obtain rfl : ad939 = ad943 := (by injection e943)
         replace hx943_0 := (HB.out.cell (bq_' w _ hx943_0)).trans hx943_0
         replace hx943_1 := (HB.out.cell (bq_' w _ hx943_1)).trans hx943_1
         replace p943 := eq_true p943
         replace q943 := eq_true q943
         have hq0_ : wr.cell? (ad939.add ((x3_1).toNat * 2)) = some (.int .i64 ((rd_T140 l0 x3_1).f0)) := ((HB.out.cell (bq_' w _ hw939_0)).trans hw939_0)
         have hq1_ : wr.cell? ⟨(ad939.add ((x3_1).toNat * 2)).block, (ad939.add ((x3_1).toNat * 2)).off + 1, none⟩ = some (.int .i64 ((rd_T140 l0 x3_1).f1)) := ((HB.out.cell (bq_' w _ hw939_1)).trans hw939_1)
         have hq2_ : wr.cell? (ad939.add ((x3_1).toNat * 2)) = some (.int .i64 ((rd_T140 l0 x3_1).f0)) := ((HB.out.cell (bq_' w _ hw941_0)).trans hw941_0)
         have hq3_ : wr.cell? ⟨(ad939.add ((x3_1).toNat * 2)).block, (ad939.add ((x3_1).toNat * 2)).off + 1, none⟩ = some (.int .i64 ((rd_T140 l0 x3_1).f1)) := ((HB.out.cell (bq_' w _ hw941_1)).trans hw941_1)
         have hq4_ : wr.cell? (ad939.add ((x3_1).toNat * 2)) = some (.int .i64 ((rd_T140 l0 x3_1).f0)) := ((HB.out.cell (bq_' w _ hw943_0)).trans hw943_0)
         have hq5_ : wr.cell? ⟨(ad939.add ((x3_1).toNat * 2)).block, (ad939.add ((x3_1).toNat * 2)).off + 1, none⟩ = some (.int .i64 ((rd_T140 l0 x3_1).f1)) := ((HB.out.cell (bq_' w _ hw943_1)).trans hw943_1)
         go_quiet ((first | (go_at_call 80; apply Calls.quiet_of; ((with_reducible refine (spec_l1In.calls ((rd_T140 l0 x3_1).f1) 20 300 true _ A4.out).mono ?_); exact fun _ _ h_ => ⟨h_.1, h_.2.out⟩)) | (go_at_call 80; apply Calls.quiet_of; ((with_reducible refine (spec_l1In.calls ((rd_T140 l0 x3_1).f0) 0 2000 true _ A6.out).mono ?_); exact fun _ _ h_ => ⟨h_.1, h_.2.out⟩))))
         have nHB_ := sk_' (pn_' (W := wr) ⟨HB.out.os, HB.out.tape, HB.out.output, HB.out.size, HB.out.block⟩ nq)
         have nhx939_0_ : (wr.drewN nq).cell? _ = _ := hx939_0
         have nhx939_1_ : (wr.drewN nq).cell? _ = _ := hx939_1
         have nhx941_0_ : (wr.drewN nq).cell? _ = _ := hx941_0
         have nhx941_1_ : (wr.drewN nq).cell? _ = _ := hx941_1
         have nhx943_0_ : (wr.drewN nq).cell? _ = _ := hx943_0
         have nhx943_1_ : (wr.drewN nq).cell? _ = _ := hx943_1
         clear HB hx939_0 hx939_1 hx941_0 hx941_1 hx943_0 hx943_1 hq0_ hq1_ hq2_ hq3_ hq4_ hq5_
         have HB := nHB_
         have hx939_0 := nhx939_0_
         have hx939_1 := nhx939_1_
         have hx941_0 := nhx941_0_
         have hx941_1 := nhx941_1_
         have hx943_0 := nhx943_0_
         have hx943_1 := nhx943_1_
         clear nHB_ nhx939_0_ nhx939_1_ nhx941_0_ nhx941_1_ nhx943_0_ nhx943_1_
         generalize wr.drewN nq = w17 at HB hx939_0 hx939_1 hx941_0 hx941_1 hx943_0 hx943_1 ⊢
         try go_wp2
         go_roundg k1
         case measure => have := HK1.out; omega
         case rel => exact ⟨(wrap64 (x3_1 + 1)), rfl, H', ⟨by have := HK1.out; omega⟩, ⟨bm HB⟩⟩
        rw [if_neg c9] at H
        have c9b0 : (((rd_T140 l0 x3_1).f0) == 0) = false := beq_eq_false_iff_ne.mpr c9
        have c9b1 : (((rd_T140 l0 x3_1).f0) != 0) = true := bne_iff_ne.mpr c9
        obtain rfl := Option.some.inj H
        try go_wp2
        have n0_ := sk_' (pd_' HB.out)
        clear HB
        have HB := n0_
        clear n0_
        have p939 : 0 ≤ (x3_1 : Int) := od_' (by first | (with_reducible assumption) | assumption)
        have q939 : x3_1 < (l0.length : Int) := od_' (by first | (with_reducible assumption) | assumption)
        obtain ⟨ad939, e939, hx939_0, hx939_1⟩ := at_T140 HR0.out x3_1 p939 q939
        have hw939_1 := hx939_1
        have hw939_0 := hx939_0
        cases e939
        replace hx939_0 := (HB.out.cell (bq_' w _ hx939_0)).trans hx939_0
        replace hx939_1 := (HB.out.cell (bq_' w _ hx939_1)).trans hx939_1
        replace p939 := eq_true p939
        replace q939 := eq_true q939
        have p941 : 0 ≤ (x3_1 : Int) := od_' (by first | (with_reducible assumption) | assumption)
        have q941 : x3_1 < (l0.length : Int) := od_' (by first | (with_reducible assumption) | assumption)
        obtain ⟨ad941, e941, hx941_0, hx941_1⟩ := at_T140 HR0.out x3_1 p941 q941
        have hw941_1 := hx941_1
        have hw941_0 := hx941_0
        obtain rfl : ad939 = ad941 := (by injection e941)
        replace hx941_0 := (HB.out.cell (bq_' w _ hx941_0)).trans hx941_0
        replace hx941_1 := (HB.out.cell (bq_' w _ hx941_1)).trans hx941_1
        replace p941 := eq_true p941
        replace q941 := eq_true q941
        have p943 : 0 ≤ (x3_1 : Int) := od_' (by first | (with_reducible assumption) | assumption)
        have q943 : x3_1 < (l0.length : Int) := od_' (by first | (with_reducible assumption) | assumption)
        obtain ⟨ad943, e943, hx943_0, hx943_1⟩ := at_T140 HR0.out x3_1 p943 q943
        have hw943_1 := hx943_1
        have hw943_0 := hx943_0
        obtain rfl : ad939 = ad943 := (by injection e943)
        replace hx943_0 := (HB.out.cell (bq_' w _ hx943_0)).trans hx943_0
        replace hx943_1 := (HB.out.cell (bq_' w _ hx943_1)).trans hx943_1
        replace p943 := eq_true p943
        replace q943 := eq_true q943
        have hq0_ : wr.cell? (ad939.add ((x3_1).toNat * 2)) = some (.int .i64 ((rd_T140 l0 x3_1).f0)) := ((HB.out.cell (bq_' w _ hw939_0)).trans hw939_0)
        have hq1_ : wr.cell? ⟨(ad939.add ((x3_1).toNat * 2)).block, (ad939.add ((x3_1).toNat * 2)).off + 1, none⟩ = some (.int .i64 ((rd_T140 l0 x3_1).f1)) := ((HB.out.cell (bq_' w _ hw939_1)).trans hw939_1)
        have hq2_ : wr.cell? (ad939.add ((x3_1).toNat * 2)) = some (.int .i64 ((rd_T140 l0 x3_1).f0)) := ((HB.out.cell (bq_' w _ hw941_0)).trans hw941_0)
        have hq3_ : wr.cell? ⟨(ad939.add ((x3_1).toNat * 2)).block, (ad939.add ((x3_1).toNat * 2)).off + 1, none⟩ = some (.int .i64 ((rd_T140 l0 x3_1).f1)) := ((HB.out.cell (bq_' w _ hw941_1)).trans hw941_1)
        have hq4_ : wr.cell? (ad939.add ((x3_1).toNat * 2)) = some (.int .i64 ((rd_T140 l0 x3_1).f0)) := ((HB.out.cell (bq_' w _ hw943_0)).trans hw943_0)
        have hq5_ : wr.cell? ⟨(ad939.add ((x3_1).toNat * 2)).block, (ad939.add ((x3_1).toNat * 2)).off + 1, none⟩ = some (.int .i64 ((rd_T140 l0 x3_1).f1)) := ((HB.out.cell (bq_' w _ hw943_1)).trans hw943_1)
        go_quiet ((first | (go_at_call 80; apply Calls.quiet_of; ((with_reducible refine (spec_l1In.calls ((rd_T140 l0 x3_1).f1) 20 300 true _ A4.out).mono ?_); exact fun _ _ h_ => ⟨h_.1, h_.2.out⟩)) | (go_at_call 80; apply Calls.quiet_of; ((with_reducible refine (spec_l1In.calls ((rd_T140 l0 x3_1).f0) 0 2000 true _ A6.out).mono ?_); exact fun _ _ h_ => ⟨h_.1, h_.2.out⟩))))
        have nHB_ := sk_' (pn_' (W := wr) ⟨HB.out.os, HB.out.tape, HB.out.output, HB.out.size, HB.out.block⟩ nq)
        have nhx939_0_ : (wr.drewN nq).cell? _ = _ := hx939_0
        have nhx939_1_ : (wr.drewN nq).cell? _ = _ := hx939_1
        have nhx941_0_ : (wr.drewN nq).cell? _ = _ := hx941_0
        have nhx941_1_ : (wr.drewN nq).cell? _ = _ := hx941_1
        have nhx943_0_ : (wr.drewN nq).cell? _ = _ := hx943_0
        have nhx943_1_ : (wr.drewN nq).cell? _ = _ := hx943_1
        clear HB hx939_0 hx939_1 hx941_0 hx941_1 hx943_0 hx943_1 hq0_ hq1_ hq2_ hq3_ hq4_ hq5_
        have HB := nHB_
        have hx939_0 := nhx939_0_
        have hx939_1 := nhx939_1_
        have hx941_0 := nhx941_0_
        have hx941_1 := nhx941_1_
        have hx943_0 := nhx943_0_
        have hx943_1 := nhx943_1_
        clear nHB_ nhx939_0_ nhx939_1_ nhx941_0_ nhx941_1_ nhx943_0_ nhx943_1_
        generalize wr.drewN nq = w18 at HB hx939_0 hx939_1 hx941_0 hx941_1 hx943_0 hx943_1 ⊢
        try go_wp2
        go_ret
        exact ⟨rfl, bm HB⟩
       rw [if_neg c8] at H
       have c8b0 : (x3_1 == 0) = false := beq_eq_false_iff_ne.mpr c8
       have c8b1 : (x3_1 != 0) = true := bne_iff_ne.mpr c8
       by_cases c19 : x3_1 > 0
       ·
        rw [if_pos c19] at H
        have c19b0 : decide (0 < x3_1) = true := decide_eq_true c19
        clear c19
        obtain ⟨ji20, hji20⟩ : ∃ j_ : Int, (wrap64 (x3_1 - 1)) = j_ := ⟨_, rfl⟩
        replace H : (if 0 ≤ (ji20) then (if (ji20) < (l0.length : Int) then (if ((rd_T140 l0 (ji20)).f0) ≥ ((rd_T140 l0 x3_1).f0) then (some false) else (spec_IsTempo.l0 k1 l0 (wrap64 (x3_1 + 1)))) else (none)) else (none)) = some r := by first | (rw [hji20] at H; exact H) | (simp only [hji20] at H ⊢; exact H)
        (try rw [hji20] at A4)
        (try rw [hji20] at A6)
        have hji20w : (IntKind.i64.wrap (x3_1 - 1)) = ji20 := (i64_w _).trans hji20
        by_cases c21 : 0 ≤ (ji20)
        ·
         rw [if_pos c21] at H
         have c21b0 : decide (0 ≤ (ji20)) = true := decide_eq_true c21
         clear c21
         by_cases c22 : (ji20) < (l0.length : Int)
         ·
          rw [if_pos c22] at H
          have c22b0 : decide ((ji20) < (l0.length : Int)) = true := decide_eq_true c22
          clear c22
          by_cases c23 : ((rd_T140 l0 (ji20)).f0) ≥ ((rd_T140 l0 x3_1).f0)
          ·
           rw [if_pos c23] at H
           have c23b0 : decide (((rd_T140 l0 x3_1).f0) ≤ ((rd_T140 l0 (ji20)).f0)) = true := decide_eq_true c23
           clear c23
           obtain rfl := Option.some.inj H
           try go_wp2
           have n0_ := sk_' (pd_' HB.out)
           clear HB
           have HB := n0_
           clear n0_
           have p939 : 0 ≤ (x3_1 : Int) := od_' (by first | (with_reducible assumption) | assumption)
           have q939 : x3_1 < (l0.length : Int) := od_' (by first | (with_reducible assumption) | assumption)
           obtain ⟨ad939, e939, hx939_0, hx939_1⟩ := at_T140 HR0.out x3_1 p939 q939
           have hw939_1 := hx939_1
           have hw939_0 := hx939_0
           cases e939
           replace hx939_0 := (HB.out.cell (bq_' w _ hx939_0)).trans hx939_0
           replace hx939_1 := (HB.out.cell (bq_' w _ hx939_1)).trans hx939_1
           replace p939 := eq_true p939
           replace q939 := eq_true q939
           have p941 : 0 ≤ (x3_1 : Int) := od_' (by first | (with_reducible assumption) | assumption)
           have q941 : x3_1 < (l0.length : Int) := od_' (by first | (with_reducible assumption) | assumption)
           obtain ⟨ad941, e941, hx941_0, hx941_1⟩ := at_T140 HR0.out x3_1 p941 q941
           have hw941_1 := hx941_1
           have hw941_0 := hx941_0
           obtain rfl : ad939 = ad941 := (by injection e941)
           replace hx941_0 := (HB.out.cell (bq_' w _ hx941_0)).trans hx941_0
           replace hx941_1 := (HB.out.cell (bq_' w _ hx941_1)).trans hx941_1
           replace p941 := eq_true p941
           replace q941 := eq_true q941
           have p946 : 0 ≤ ((ji20) : Int) := od_' (by first | (with_reducible assumption) | assumption)
           have q946 : (ji20) < (l0.length : Int) := od_' (by first | (with_reducible assumption) | assumption)
           obtain ⟨ad946, e946, hx946_0, hx946_1⟩ := at_T140 HR0.out (ji20) p946 q946
           have hw946_1 := hx946_1
           have hw946_0 := hx946_0
           obtain rfl : ad939 = ad946 := (by injection e946)
           replace hx946_0 := (HB.out.cell (bq_' w _ hx946_0)).trans hx946_0
           replace hx946_1 := (HB.out.cell (bq_' w _ hx946_1)).trans hx946_1
           replace p946 := eq_true p946
           replace q946 := eq_true q946
           have p947 : 0 ≤ (x3_1 : Int) := od_' (by first | (with_reducible assumption) | assumption)
           have q947 : x3_1 < (l0.length : Int) := od_' (by first | (with_reducible assumption) | assumption)
           obtain ⟨ad947, e947, hx947_0, hx947_1⟩ := at_T140 HR0.out x3_1 p947 q947
           have hw947_1 := hx947_1
           have hw947_0 := hx947_0
           obtain rfl : ad939 = ad947 := (by injection e947)
           replace hx947_0 := (HB.out.cell (bq_' w _ hx947_0)).trans hx947_0
           replace hx947_1 := (HB.out.cell (bq_' w _ hx947_1)).trans hx947_1
           replace p947 := eq_true p947
           replace q947 := eq_true q947
           have hq0_ : wr.cell? (ad939.add ((x3_1).toNat * 2)) = some (.int .i64 ((rd_T140 l0 x3_1).f0)) := ((HB.out.cell (bq_' w _ hw939_0)).trans hw939_0)
           have hq1_ : wr.cell? ⟨(ad939.add ((x3_1).toNat * 2)).block, (ad939.add ((x3_1).toNat * 2)).off + 1, none⟩ = some (.int .i64 ((rd_T140 l0 x3_1).f1)) := ((HB.out.cell (bq_' w _ hw939_1)).trans hw939_1)
           have hq2_ : wr.cell? (ad939.add ((x3_1).toNat * 2)) = some (.int .i64 ((rd_T140 l0 x3_1).f0)) := ((HB.out.cell (bq_' w _ hw941_0)).trans hw941_0)
           have hq3_ : wr.cell? ⟨(ad939.add ((x3_1).toNat * 2)).block, (ad939.add ((x3_1).toNat * 2)).off + 1, none⟩ = some (.int .i64 ((rd_T140 l0 x3_1).f1)) := ((HB.out.cell (bq_' w _ hw941_1)).trans hw941_1)
           have hq4_ : wr.cell? (ad939.add (((ji20)).toNat * 2)) = some (.int .i64 ((rd_T140 l0 (ji20)).f0)) := ((HB.out.cell (bq_' w _ hw946_0)).trans hw946_0)
           have hq5_ : wr.cell? ⟨(ad939.add (((ji20)).toNat * 2)).block, (ad939.add (((ji20)).toNat * 2)).off + 1, none⟩ = some (.int .i64 ((rd_T140 l0 (ji20)).f1)) := ((HB.out.cell (bq_' w _ hw946_1)).trans hw946_1)
           have hq6_ : wr.cell? (ad939.add ((x3_1).toNat * 2)) = some (.int .i64 ((rd_T140 l0 x3_1).f0)) := ((HB.out.cell (bq_' w _ hw947_0)).trans hw947_0)
           have hq7_ : wr.cell? ⟨(ad939.add ((x3_1).toNat * 2)).block, (ad939.add ((x3_1).toNat * 2)).off + 1, none⟩ = some (.int .i64 ((rd_T140 l0 x3_1).f1)) := ((HB.out.cell (bq_' w _ hw947_1)).trans hw947_1)
           go_quiet ((first | (go_at_call 80; apply Calls.quiet_of; ((with_reducible refine (spec_l1In.calls ((rd_T140 l0 x3_1).f1) 20 300 true _ A4.out).mono ?_); exact fun _ _ h_ => ⟨h_.1, h_.2.out⟩)) | (go_at_call 80; apply Calls.quiet_of; ((with_reducible refine (spec_l1In.calls ((rd_T140 l0 x3_1).f0) 0 2000 true _ A6.out).mono ?_); exact fun _ _ h_ => ⟨h_.1, h_.2.out⟩))))
           have nHB_ := sk_' (pn_' (W := wr) ⟨HB.out.os, HB.out.tape, HB.out.output, HB.out.size, HB.out.block⟩ nq)
           have nhx939_0_ : (wr.drewN nq).cell? _ = _ := hx939_0
           have nhx939_1_ : (wr.drewN nq).cell? _ = _ := hx939_1
           have nhx941_0_ : (wr.drewN nq).cell? _ = _ := hx941_0
           have nhx941_1_ : (wr.drewN nq).cell? _ = _ := hx941_1
           have nhx946_0_ : (wr.drewN nq).cell? _ = _ := hx946_0
           have nhx946_1_ : (wr.drewN nq).cell? _ = _ := hx946_1
           have nhx947_0_ : (wr.drewN nq).cell? _ = _ := hx947_0
           have nhx947_1_ : (wr.drewN nq).cell? _ = _ := hx947_1
           clear HB hx939_0 hx939_1 hx941_0 hx941_1 hx946_0 hx946_1 hx947_0 hx947_1 hq0_ hq1_ hq2_ hq3_ hq4_ hq5_ hq6_ hq7_
           have HB := nHB_
           have hx939_0 := nhx939_0_
           have hx939_1 := nhx939_1_
           have hx941_0 := nhx941_0_
           have hx941_1 := nhx941_1_
           have hx946_0 := nhx946_0_
           have hx946_1 := nhx946_1_
           have hx947_0 := nhx947_0_
           have hx947_1 := nhx947_1_
           clear nHB_ nhx939_0_ nhx939_1_ nhx941_0_ nhx941_1_ nhx946_0_ nhx946_1_ nhx947_0_ nhx947_1_
           generalize wr.drewN nq = w24 at HB hx939_0 hx939_1 hx941_0 hx941_1 hx946_0 hx946_1 hx947_0 hx947_1 ⊢
           try go_wp2
           go_ret
           exact ⟨by first | rfl | (simp [errW_none, errW_some] <;> rfl) | (simp only [← hji20]; first | rfl | (simp [errW_none, errW_some] <;> rfl)) | (simp [*, errW_none, errW_some] <;> rfl), bm HB⟩
          rw [if_neg c23] at H
          have c23b0 : decide (((rd_T140 l0 x3_1).f0) ≤ ((rd_T140 l0 (ji20)).f0)) = false := decide_eq_false c23
          clear c23
          have H' := sk_' H
          clear H
          try go_wp2
          have n0_ := sk_' (pd_' HB.out)
          clear HB
          have HB := n0_
          clear n0_
          have p939 : 0 ≤ (x3_1 : Int) := od_' (by first | (with_reducible assumption) | assumption)
          have q939 : x3_1 < (l0.length : Int) := od_' (by first | (with_reducible assumption) | assumption)
          obtain ⟨ad939, e939, hx939_0, hx939_1⟩ := at_T140 HR0.out x3_1 p939 q939
          have hw939_1 := hx939_1
          have hw939_0 := hx939_0
          cases e939
          replace hx939_0 := (HB.out.cell (bq_' w _ hx939_0)).trans hx939_0
          replace hx939_1 := (HB.out.cell (bq_' w _ hx939_1)).trans hx939_1
          replace p939 := eq_true p939
          replace q939 := eq_true q939
          have p941 : 0 ≤ (x3_1 : Int) := od_' (by first | (with_reducible assumption) | assumption)
          have q941 : x3_1 < (l0.length : Int) := od_' (by first | (with_reducible assumption) | assumption)
          obtain ⟨ad941, e941, hx941_0, hx941_1⟩ := at_T140 HR0.out x3_1 p941 q941
          have hw941_1 := hx941_1
          have hw941_0 := hx941_0
          obtain rfl : ad939 = ad941 := (by injection e941)
          replace hx941_0 := (HB.out.cell (bq_' w _ hx941_0)).trans hx941_0
          replace hx941_1 := (HB.out.cell (bq_' w _ hx941_1)).trans hx941_1
          replace p941 := eq_true p941
          replace q941 := eq_true q941
          have p946 : 0 ≤ ((ji20) : Int) := od_' (by first | (with_reducible assumption) | assumption)
          have q946 : (ji20) < (l0.length : Int) := od_' (by first | (with_reducible assumption) | assumption)
          obtain ⟨ad946, e946, hx946_0, hx946_1⟩ := at_T140 HR0.out (ji20) p946 q946
          have hw946_1 := hx946_1
          have hw946_0 := hx946_0
          obtain rfl : ad939 = ad946 := (by injection e946)
          replace hx946_0 := (HB.out.cell (bq_' w _ hx946_0)).trans hx946_0
          replace hx946_1 := (HB.out.cell (bq_' w _ hx946_1)).trans hx946_1
          replace p946 := eq_true p946
          replace q946 := eq_true q946
          have p947 : 0 ≤ (x3_1 : Int) := od_' (by first | (with_reducible assumption) | assumption)
          have q947 : x3_1 < (l0.length : Int) := od_' (by first | (with_reducible assumption) | assumption)
          obtain ⟨ad947, e947, hx947_0, hx947_1⟩ := at_T140 HR0.out x3_1 p947 q947
          have hw947_1 := hx947_1
          have hw947_0 := hx947_0
          obtain rfl : ad939 = ad947 := (by injection e947)
          replace hx947_0 := (HB.out.cell (bq_' w _ hx947_0)).trans hx947_0
          replace hx947_1 := (HB.out.cell (bq_' w _ hx947_1)).trans hx947_1
          replace p947 := eq_true p947
          replace q947 := eq_true q947
          have hq0_ : wr.cell? (ad939.add ((x3_1).toNat * 2)) = some (.int .i64 ((rd_T140 l0 x3_1).f0)) := ((HB.out.cell (bq_' w _ hw939_0)).trans hw939_0)
          have hq1_ : wr.cell? ⟨(ad939.add ((x3_1).toNat * 2)).block, (ad939.add ((x3_1).toNat * 2)).off + 1, none⟩ = some (.int .i64 ((rd_T140 l0 x3_1).f1)) := ((HB.out.cell (bq_' w _ hw939_1)).trans hw939_1)
          have hq2_ : wr.cell? (ad939.add ((x3_1).toNat * 2)) = some (.int .i64 ((rd_T140 l0 x3_1).f0)) := ((HB.out.cell (bq_' w _ hw941_0)).trans hw941_0)
          have hq3_ : wr.cell? ⟨(ad939.add ((x3_1).toNat * 2)).block, (ad939.add ((x3_1).toNat * 2)).off + 1, none⟩ = some (.int .i64 ((rd_T140 l0 x3_1).f1)) := ((HB.out.cell (bq_' w _ hw941_1)).trans hw941_1)
          have hq4_ : wr.cell? (ad939.add (((ji20)).toNat * 2)) = some (.int .i64 ((rd_T140 l0 (ji20)).f0)) := ((HB.out.cell (bq_' w _ hw946_0)).trans hw946_0)
          have hq5_ : wr.cell? ⟨(ad939.add (((ji20)).toNat * 2)).block, (ad939.add (((ji20)).toNat * 2)).off + 1, none⟩ = some (.int .i64 ((rd_T140 l0 (ji20)).f1)) := ((HB.out.cell (bq_' w _ hw946_1)).trans hw946_1)
          have hq6_ : wr.cell? (ad939.add ((x3_1).toNat * 2)) = some (.int .i64 ((rd_T140 l0 x3_1).f0)) := ((HB.out.cell (bq_' w _ hw947_0)).trans hw947_0)
          have hq7_ : wr.cell? ⟨(ad939.add ((x3_1).toNat * 2)).block, (ad939.add ((x3_1).toNat * 2)).off + 1, none⟩ = some (.int .i64 ((rd_T140 l0 x3_1).f1)) := ((HB.out.cell (bq_' w _ hw947_1)).trans hw947_1)
          go_quiet ((first | (go_at_call 80; apply Calls.quiet_of; ((with_reducible refine (spec_l1In.calls ((rd_T140 l0 x3_1).f1) 20 300 true _ A4.out).mono ?_); exact fun _ _ h_ => ⟨h_.1, h_.2.out⟩)) | (go_at_call 80; apply Calls.quiet_of; ((with_reducible refine (spec_l1In.calls ((rd_T140 l0 x3_1).f0) 0 2000 true _ A6.out).mono ?_); exact fun _ _ h_ => ⟨h_.1, h_.2.out⟩))))
          have nHB_ := sk_' (pn_' (W := wr) ⟨HB.out.os, HB.out.tape, HB.out.output, HB.out.size, HB.out.block⟩ nq)
          have nhx939_0_ : (wr.drewN nq).cell? _ = _ := hx939_0
          have nhx939_1_ : (wr.drewN nq).cell? _ = _ := hx939_1
          have nhx941_0_ : (wr.drewN nq).cell? _ = _ := hx941_0
          have nhx941_1_ : (wr.drewN nq).cell? _ = _ := hx941_1
          have nhx946_0_ : (wr.drewN nq).cell? _ = _ := hx946_0
          have nhx946_1_ : (wr.drewN nq).cell? _ = _ := hx946_1
          have nhx947_0_ : (wr.drewN nq).cell? _ = _ := hx947_0
          have nhx947_1_ : (wr.drewN nq).cell? _ = _ := hx947_1
          clear HB hx939_0 hx939_1 hx941_0 hx941_1 hx946_0 hx946_1 hx947_0 hx947_1 hq0_ hq1_ hq2_ hq3_ hq4_ hq5_ hq6_ hq7_
          have HB := nHB_
          have hx939_0 := nhx939_0_
          have hx939_1 := nhx939_1_
          have hx941_0 := nhx941_0_
          have hx941_1 := nhx941_1_
          have hx946_0 := nhx946_0_
          have hx946_1 := nhx946_1_
          have hx947_0 := nhx947_0_
          have hx947_1 := nhx947_1_
          clear nHB_ nhx939_0_ nhx939_1_ nhx941_0_ nhx941_1_ nhx946_0_ nhx946_1_ nhx947_0_ nhx947_1_
          generalize wr.drewN nq = w25 at HB hx939_0 hx939_1 hx941_0 hx941_1 hx946_0 hx946_1 hx947_0 hx947_1 ⊢
          try go_wp2
          go_roundg k1
          case measure => have := HK1.out; omega
          case rel => exact ⟨(wrap64 (x3_1 + 1)), rfl, H', ⟨by have := HK1.out; omega⟩, ⟨bm HB⟩⟩
         rw [if_neg c22] at H
         exact absurd H (by simp)
        rw [if_neg c21] at H
        exact absurd H (by simp)
       rw [if_neg c19] at H
       have c19b0 : decide (0 < x3_1) = false := decide_eq_false c19
       clear c19
       have H' := sk_' H
       clear H
       try go_wp2
       have n0_ := sk_' (pd_' HB.out)
       clear HB
       have HB := n0_
       clear n0_
       have p939 : 0 ≤ (x3_1 : Int) := od_' (by first | (with_reducible assumption) | assumption)
       have q939 : x3_1 < (l0.length : Int) := od_' (by first | (with_reducible assumption) | assumption)
       obtain ⟨ad939, e939, hx939_0, hx939_1⟩ := at_T140 HR0.out x3_1 p939 q939
       have hw939_1 := hx939_1
       have hw939_0 := hx939_0
       cases e939
       replace hx939_0 := (HB.out.cell (bq_' w _ hx939_0)).trans hx939_0
       replace hx939_1 := (HB.out.cell (bq_' w _ hx939_1)).trans hx939_1
       replace p939 := eq_true p939
       replace q939 := eq_true q939
       have p941 : 0 ≤ (x3_1 : Int) := od_' (by first | (with_reducible assumption) | assumption)
       have q941 : x3_1 < (l0.length : Int) := od_' (by first | (with_reducible assumption) | assumption)
       obtain ⟨ad941, e941, hx941_0, hx941_1⟩ := at_T140 HR0.out x3_1 p941 q941
       have hw941_1 := hx941_1
       have hw941_0 := hx941_0
       obtain rfl : ad939 = ad941 := (by injection e941)
       replace hx941_0 := (HB.out.cell (bq_' w _ hx941_0)).trans hx941_0
       replace hx941_1 := (HB.out.cell (bq_' w _ hx941_1)).trans hx941_1
       replace p941 := eq_true p941
       replace q941 := eq_true q941
       have hq0_ : wr.cell? (ad939.add ((x3_1).toNat * 2)) = some (.int .i64 ((rd_T140 l0 x3_1).f0)) := ((HB.out.cell (bq_' w _ hw939_0)).trans hw939_0)
       have hq1_ : wr.cell? ⟨(ad939.add ((x3_1).toNat * 2)).block, (ad939.add ((x3_1).toNat * 2)).off + 1, none⟩ = some (.int .i64 ((rd_T140 l0 x3_1).f1)) := ((HB.out.cell (bq_' w _ hw939_1)).trans hw939_1)
       have hq2_ : wr.cell? (ad939.add ((x3_1).toNat * 2)) = some (.int .i64 ((rd_T140 l0 x3_1).f0)) := ((HB.out.cell (bq_' w _ hw941_0)).trans hw941_0)
       have hq3_ : wr.cell? ⟨(ad939.add ((x3_1).toNat * 2)).block, (ad939.add ((x3_1).toNat * 2)).off + 1, none⟩ = some (.int .i64 ((rd_T140 l0 x3_1).f1)) := ((HB.out.cell (bq_' w _ hw941_1)).trans hw941_1)
       go_quiet ((first | (go_at_call 80; apply Calls.quiet_of; ((with_reducible refine (spec_l1In.calls ((rd_T140 l0 x3_1).f1) 20 300 true _ A4.out).mono ?_); exact fun _ _ h_ => ⟨h_.1, h_.2.out⟩)) | (go_at_call 80; apply Calls.quiet_of; ((with_reducible refine (spec_l1In.calls ((rd_T140 l0 x3_1).f0) 0 2000 true _ A6.out).mono ?_); exact fun _ _ h_ => ⟨h_.1, h_.2.out⟩))))
       have nHB_ := sk_' (pn_' (W := wr) ⟨HB.out.os, HB.out.tape, HB.out.output, HB.out.size, HB.out.block⟩ nq)
       have nhx939_0_ : (wr.drewN nq).cell? _ = _ := hx939_0
       have nhx939_1_ : (wr.drewN nq).cell? _ = _ := hx939_1
       have nhx941_0_ : (wr.drewN nq).cell? _ = _ := hx941_0
       have nhx941_1_ : (wr.drewN nq).cell? _ = _ := hx941_1
       clear HB hx939_0 hx939_1 hx941_0 hx941_1 hq0_ hq1_ hq2_ hq3_
       have HB := nHB_
       have hx939_0 := nhx939_0_
       have hx939_1 := nhx939_1_
       have hx941_0 := nhx941_0_
       have hx941_1 := nhx941_1_
       clear nHB_ nhx939_0_ nhx939_1_ nhx941_0_ nhx941_1_
       generalize wr.drewN nq = w26 at HB hx939_0 hx939_1 hx941_0 hx941_1 ⊢
       try go_wp2
       go_roundg k1
       case measure => have := HK1.out; omega
       case rel => exact ⟨(wrap64 (x3_1 + 1)), rfl, H', ⟨by have := HK1.out; omega⟩, ⟨bm HB⟩⟩
      replace c7 := Bool.eq_false_iff.mpr c7
      subst c7
      rw [if_neg (show ¬ (false = true) by decide)] at H
      obtain rfl := Option.some.inj H
      try go_wp2
      have n0_ := sk_' (pd_' HB.out)
      clear HB
      have HB := n0_
      clear n0_
      have p939 : 0 ≤ (x3_1 : Int) := od_' (by first | (with_reducible assumption) | assumption)
      have q939 : x3_1 < (l0.length : Int) := od_' (by first | (with_reducible assumption) | assumption)
      obtain ⟨ad939, e939, hx939_0, hx939_1⟩ := at_T140 HR0.out x3_1 p939 q939
      have hw939_1 := hx939_1
      have hw939_0 := hx939_0
      cases e939
      replace hx939_0 := (HB.out.cell (bq_' w _ hx939_0)).trans hx939_0
      replace hx939_1 := (HB.out.cell (bq_' w _ hx939_1)).trans hx939_1
      replace p939 := eq_true p939
      replace q939 := eq_true q939
      have p941 : 0 ≤ (x3_1 : Int) := od_' (by first | (with_reducible assumption) | assumption)
      have q941 : x3_1 < (l0.length : Int) := od_' (by first | (with_reducible assumption) | assumption)
      obtain ⟨ad941, e941, hx941_0, hx941_1⟩ := at_T140 HR0.out x3_1 p941 q941
      have hw941_1 := hx941_1
      have hw941_0 := hx941_0
      obtain rfl : ad939 = ad941 := (by injection e941)
      replace hx941_0 := (HB.out.cell (bq_' w _ hx941_0)).trans hx941_0
      replace hx941_1 := (HB.out.cell (bq_' w _ hx941_1)).trans hx941_1
      replace p941 := eq_true p941
      replace q941 := eq_true q941
      have hq0_ : wr.cell? (ad939.add ((x3_1).toNat * 2)) = some (.int .i64 ((rd_T140 l0 x3_1).f0)) := ((HB.out.cell (bq_' w _ hw939_0)).trans hw939_0)
      have hq1_ : wr.cell? ⟨(ad939.add ((x3_1).toNat * 2)).block, (ad939.add ((x3_1).toNat * 2)).off + 1, none⟩ = some (.int .i64 ((rd_T140 l0 x3_1).f1)) := ((HB.out.cell (bq_' w _ hw939_1)).trans hw939_1)
      have hq2_ : wr.cell? (ad939.add ((x3_1).toNat * 2)) = some (.int .i64 ((rd_T140 l0 x3_1).f0)) := ((HB.out.cell (bq_' w _ hw941_0)).trans hw941_0)
      have hq3_ : wr.cell? ⟨(ad939.add ((x3_1).toNat * 2)).block, (ad939.add ((x3_1).toNat * 2)).off + 1, none⟩ = some (.int .i64 ((rd_T140 l0 x3_1).f1)) := ((HB.out.cell (bq_' w _ hw941_1)).trans hw941_1)
      go_quiet ((first | (go_at_call 80; apply Calls.quiet_of; ((with_reducible refine (spec_l1In.calls ((rd_T140 l0 x3_1).f1) 20 300 true _ A4.out).mono ?_); exact fun _ _ h_ => ⟨h_.1, h_.2.out⟩)) | (go_at_call 80; apply Calls.quiet_of; ((with_reducible refine (spec_l1In.calls ((rd_T140 l0 x3_1).f0) 0 2000 false _ A6.out).mono ?_); exact fun _ _ h_ => ⟨h_.1, h_.2.out⟩))))
      have nHB_ := sk_' (pn_' (W := wr) ⟨HB.out.os, HB.out.tape, HB.out.output, HB.out.size, HB.out.block⟩ nq)
      have nhx939_0_ : (wr.drewN nq).cell? _ = _ := hx939_0
      have nhx939_1_ : (wr.drewN nq).cell? _ = _ := hx939_1
      have nhx941_0_ : (wr.drewN nq).cell? _ = _ := hx941_0
      have nhx941_1_ : (wr.drewN nq).cell? _ = _ := hx941_1
      clear HB hx939_0 hx939_1 hx941_0 hx941_1 hq0_ hq1_ hq2_ hq3_
      have HB := nHB_
      have hx939_0 := nhx939_0_
      have hx939_1 := nhx939_1_
      have hx941_0 := nhx941_0_
      have hx941_1 := nhx941_1_
      clear nHB_ nhx939_0_ nhx939_1_ nhx941_0_ nhx941_1_
      generalize wr.drewN nq = w27 at HB hx939_0 hx939_1 hx941_0 hx941_1 ⊢
      try go_wp2
      go_ret
      exact ⟨rfl, bm HB⟩
     replace c5 := Bool.eq_false_iff.mpr c5
     subst c5
     rw [if_neg (show ¬ (false = true) by decide)] at H
     obtain rfl := Option.some.inj H
     try go_wp2
     have n0_ := sk_' (pd_' HB.out)
     clear HB
     have HB := n0_
     clear n0_
     have p939 : 0 ≤ (x3_1 : Int) := od_' (by first | (with_reducible assumption) | assumption)
     have q939 : x3_1 < (l0.length : Int) := od_' (by first | (with_reducible assumption) | assumption)
     obtain ⟨ad939, e939, hx939_0, hx939_1⟩ := at_T140 HR0.out x3_1 p939 q939
     have hw939_1 := hx939_1
     have hw939_0 := hx939_0
     cases e939
     replace hx939_0 := (HB.out.cell (bq_' w _ hx939_0)).trans hx939_0
     replace hx939_1 := (HB.out.cell (bq_' w _ hx939_1)).trans hx939_1
     replace p939 := eq_true p939
     replace q939 := eq_true q939
     have hq0_ : wr.cell? (ad939.add ((x3_1).toNat * 2)) = some (.int .i64 ((rd_T140 l0 x3_1).f0)) := ((HB.out.cell (bq_' w _ hw939_0)).trans hw939_0)
     have hq1_ : wr.cell? ⟨(ad939.add ((x3_1).toNat * 2)).block, (ad939.add ((x3_1).toNat * 2)).off + 1, none⟩ = some (.int .i64 ((rd_T140 l0 x3_1).f1)) := ((HB.out.cell (bq_' w _ hw939_1)).trans hw939_1)
     go_quiet ((first | (go_at_call 80; apply Calls.quiet_of; ((with_reducible refine (spec_l1In.calls ((rd_T140 l0 x3_1).f1) 20 300 false _ A4.out).mono ?_); exact fun _ _ h_ => ⟨h_.1, h_.2.out⟩))))
     have nHB_ := sk_' (pn_' (W := wr) ⟨HB.out.os, HB.out.tape, HB.out.output, HB.out.size, HB.out.block⟩ nq)
     have nhx939_0_ : (wr.drewN nq).cell? _ = _ := hx939_0
     have nhx939_1_ : (wr.drewN nq).cell? _ = _ := hx939_1
     clear HB hx939_0 hx939_1 hq0_ hq1_
     have HB := nHB_
     have hx939_0 := nhx939_0_
     have hx939_1 := nhx939_1_
     clear nHB_ nhx939_0_ nhx939_1_
     generalize wr.drewN nq = w28 at HB hx939_0 hx939_1 ⊢
     try go_wp2
     go_ret
     exact ⟨rfl, bm HB⟩
    rw [if_neg c3] at H
    exact absurd H (by simp)
   rw [if_neg c2] at H
   have c2b0 : decide (x3_1 < (l0.length : Int)) = false := decide_eq_false c2
   clear c2
   replace H := bs_' H
   obtain ⟨t938, A290, H⟩ := H
   try dsimp only at H
   have A29 := sk_' A290
   clear A290
   obtain rfl := Option.some.inj H
   go_wp2_with (first | ((with_reducible refine xj_' (f := 80) rfl ?_); refine goesL_ (some 58) rfl rfl Try.func80 (by kernel_rfl) rfl #[.int .i64 (l0.length : Int), .int .i64 1, .int .i64 8] rfl (by (try simp only [xm_', xc_', xn_']); first | done | rfl | (simp only [xd_', xt_']; rfl)) ?_; (with_reducible refine (spec_l1In.calls (l0.length : Int) 1 8 t938 _ A29.out).mono ?_); rintro e w' ⟨rfl, ⟨nd, rfl⟩⟩; refine ⟨_, rfl, ?_⟩))
   go_ret
   exact ⟨by first | rfl | (simp [errW_none, errW_some] <;> rfl) | (simp [*, errW_none, errW_some] <;> rfl), by repeat (first | (with_reducible first | exact HB.out | apply pa_' | apply pn_' | apply pd_') | exact HB.out)⟩
end Go.Proofs.Ytiophiipmgpaeaa.F

namespace Go.Proofs.Ytiophiipmgpaeaa.F
open Go.RowKit Go.Proofs.YtiophiipmgpaeaaW.PrintWords Go.Proofs.YtiophiipmgpaeaaW.PrintLast Go.Proofs.YtiophiipmgpaeaaW.PrintMore
attribute [local go_sem] max2_int min2_int max_two min_two max_three min_three max_four min_four
set_option linter.unusedVariables false
set_option linter.unusedSimpArgs false
def spec_Min.f (a0 : Int) (a1 : Int) : Option (Int) := if a1 < a0 then (some a1) else (some a0)
set_option maxHeartbeats 8000000 in
set_option maxRecDepth 100000 in
theorem spec_Min.calls (a0 : Int) (a1 : Int) (r : Int) (w : World) (h : spec_Min.f a0 a1 = some r) :
  Calls Try.prog 146 #[.int .i64 a0, .int .i64 a1] w fun e w' => e = .returned (.int .i64 r) ∧ Drawn0 w w' := by
 have H : (if a1 < a0 then (some a1) else (some a0)) = some r := h
 clear h
 by_cases c3 : a1 < a0
 ·
  rw [if_pos c3] at H
  have c3b0 : decide (a1 < a0) = true := decide_eq_true c3
  clear c3
  obtain rfl := Option.some.inj H
  go_enter Try.func146, Try.ntmps146
  go_wp2
  go_ret
  exact ⟨by first | rfl | (simp; done) | (simp [*]; done), by repeat (first | exact Drawn0.refl _ | apply Drawn0.step)⟩
 rw [if_neg c3] at H
 have c3b0 : decide (a1 < a0) = false := decide_eq_false c3
 clear c3
 obtain rfl := Option.some.inj H
 go_enter Try.func146, Try.ntmps146
 go_wp2
 go_ret
 exact ⟨by first | rfl | (simp; done) | (simp [*]; done), by repeat (first | exact Drawn0.refl _ | apply Drawn0.step)⟩
end Go.Proofs.Ytiophiipmgpaeaa.F

namespace Go.Proofs.Ytiophiipmgpaeaa.F
open Go.RowKit Go.Proofs.YtiophiipmgpaeaaW.PrintWords Go.Proofs.YtiophiipmgpaeaaW.PrintLast Go.Proofs.YtiophiipmgpaeaaW.PrintMore
attribute [local go_sem] max2_int min2_int max_two min_two max_three min_three max_four min_four
set_option linter.unusedVariables false
set_option linter.unusedSimpArgs false
def spec_l4Gcd.l0 : Nat → Int → Int → Option (Int)
 | 0, _, _ => none
 | k + 1, x0, x1 => if x1 = 0 then (some x0) else (spec_l4Gcd.l0 k x1 (Int.tmod x0 x1))
def spec_l4Gcd.f (k : Nat) (a0 : Int) (a1 : Int) : Option (Int) := spec_l4Gcd.l0 k a0 a1
set_option maxHeartbeats 8000000 in
set_option maxRecDepth 100000 in
theorem spec_l4Gcd.calls (k : Nat) (a0 : Int) (a1 : Int) (r : Int) (w : World) (h : spec_l4Gcd.f k a0 a1 = some r) :
  Calls Try.prog 176 #[.int .i64 a0, .int .i64 a1] w fun e w' => e = .returned (.int .i64 r) ∧ Drawn0 w w' := by
 have H : (spec_l4Gcd.l0 k a0 a1) = some r := h
 clear h
 have H' := sk_' H
 clear H
 go_enter Try.func176, Try.ntmps176
 go_wp2
 repeat (go_quiet (fail); try go_wp2)
 go_loopg [0, 1] k (fun kq v0 v1 w' => ∃ (x0_1 : Int) (x1_1 : Int), v0 = .int .i64 x0_1 ∧ v1 = .int .i64 x1_1 ∧ Aside0 (spec_l4Gcd.l0 kq x0_1 x1_1 = some r) ∧ Aside0 (kq ≤ k) ∧ Drawn0 w w')
 case atStart => exact ⟨(a0), (a1), (by first | rfl | (simp; done) | (simp [*]; done)), (by first | rfl | (simp; done) | (simp [*]; done)), H', ⟨Nat.le_refl _⟩, by repeat (first | exact Drawn0.refl _ | apply Drawn0.step)⟩
 case round =>
  clear H'
  try clear c1
  try clear p2
  obtain ⟨x0_1, x1_1, rfl, rfl, HA, HK1, ⟨m1, rfl⟩⟩ := hrel
  cases gk with
  | zero => exact absurd HA.out (by simp [spec_l4Gcd.l0])
  | succ k1 =>
   have H := HA.out
   clear HA
   simp only [spec_l4Gcd.l0] at H
   by_cases c3 : x1_1 = 0
   ·
    rw [if_pos c3] at H
    have c3b0 : (x1_1 == 0) = true := beq_iff_eq.mpr c3
    have c3b1 : (x1_1 != 0) = false := bne_eq_false_iff_eq.mpr c3
    clear c3
    obtain rfl := Option.some.inj H
    go_wp2
    repeat (go_quiet (fail); try go_wp2)
    go_ret
    exact ⟨by first | rfl | (simp; done) | (simp [*]; done), by repeat (first | exact Drawn0.refl _ | apply Drawn0.step)⟩
   rw [if_neg c3] at H
   have c3b0 : (x1_1 == 0) = false := beq_eq_false_iff_ne.mpr c3
   have c3b1 : (x1_1 != 0) = true := bne_iff_ne.mpr c3
   have H' := sk_' H
   clear H
   go_wp2
   repeat (go_quiet (fail); try go_wp2)
   go_roundg k1
   case measure => have := HK1.out; omega
   case rel => exact ⟨(x1_1), (Int.tmod x0_1 x1_1), (by first | rfl | (simp; done) | (simp [*]; done)), (by first | rfl | (simp; done) | (simp [*]; done)), H', ⟨by have := HK1.out; omega⟩, by repeat (first | exact Drawn0.refl _ | apply Drawn0.step)⟩
end Go.Proofs.Ytiophiipmgpaeaa.F

namespace Go.Proofs.Ytiophiipmgpaeaa.F
open Go.RowKit Go.Proofs.YtiophiipmgpaeaaW.PrintWords Go.Proofs.YtiophiipmgpaeaaW.PrintLast Go.Proofs.YtiophiipmgpaeaaW.PrintMore
attribute [local go_sem] max2_int min2_int max_two min_two max_three min_three max_four min_four
set_option linter.unusedVariables false
set_option linter.unusedSimpArgs false
def spec_l4Abs.f (a0 : Int) : Option (Int) := if a0 < 0 then (some (wrap64 (-a0))) else (some a0)
set_option maxHeartbeats 8000000 in
set_option maxRecDepth 100000 in
theorem spec_l4Abs.calls (a0 : Int) (r : Int) (w : World) (h : spec_l4Abs.f a0 = some r) :
  Calls Try.prog 177 #[.int .i64 a0] w fun e w' => e = .returned (.int .i64 r) ∧ Drawn0 w w' := by
 have H : (if a0 < 0 then (some (wrap64 (-a0))) else (some a0)) = some r := h
 clear h
 by_cases c2 : a0 < 0
 ·
  rw [if_pos c2] at H
  have c2b0 : decide (a0 < 0) = true := decide_eq_true c2
  clear c2
  obtain rfl := Option.some.inj H
  go_enter Try.func177, Try.ntmps177
  go_wp2
  go_ret
  exact ⟨by first | rfl | (simp; done) | (simp [*]; done), by repeat (first | exact Drawn0.refl _ | apply Drawn0.step)⟩
 rw [if_neg c2] at H
 have c2b0 : decide (a0 < 0) = false := decide_eq_false c2
 clear c2
 obtain rfl := Option.some.inj H
 go_enter Try.func177, Try.ntmps177
 go_wp2
 go_ret
 exact ⟨by first | rfl | (simp; done) | (simp [*]; done), by repeat (first | exact Drawn0.refl _ | apply Drawn0.step)⟩
end Go.Proofs.Ytiophiipmgpaeaa.F
