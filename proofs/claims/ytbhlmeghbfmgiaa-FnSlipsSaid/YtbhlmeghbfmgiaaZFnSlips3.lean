/- FnSlips, part 3 of 3: texts of the claim, joined into one file. -/
import Derived.Test.YtbhlmeghbfmgiaaZFnSlips2
import Derived.Lib.OwnBridge
import Derived.Sort.OwnSortedInts
import Derived.Shelf.Spec.SlicesInsertGrow
import Derived.Deep.Slices
import Derived.Deep.Fields
import Derived.ChangeSame
import Derived.ChangeArms
import Derived.Lib.SmallJoins
import Derived.OpenShut
import Derived.Test.YtbhlmeghbfmgiaaRows
import Derived.WalkKit
import Derived.ProofKit
import Derived.ShutString
import Derived.ChangeOld
import Derived.Below
import Derived.Carry
import Derived.SizedLaws

namespace Go.Proofs.Ytbhlmeghbfmgiaa.F
open Go.RowKit Go.Proofs.YtbhlmeghbfmgiaaW.PrintWords Go.Proofs.YtbhlmeghbfmgiaaW.PrintLast Go.Proofs.YtbhlmeghbfmgiaaW.PrintMore
attribute [local go_sem] max2_int min2_int max_two min_two max_three min_three max_four min_four
set_option linter.unusedVariables false
set_option linter.unusedSimpArgs false
def delI (xs : List Int) (i : Int) : Option (List Int) := if 0 ≤ i ∧ i < (xs.length : Int) then some (xs.take i.toNat ++ xs.drop (i.toNat + 1)) else none
def insI (xs : List Int) (i p : Int) : Option (List Int) := if (0 ≤ i ∧ i ≤ (xs.length : Int)) ∧ xs.length ≤ 1000000000 then some (xs.take i.toNat ++ [p] ++ xs.drop i.toNat) else none
theorem R_mk1 {base go cap : Nat} {W : World} {x : List Int} (cur : Array Value) (hh : W.heap[go]? = some (.cells cur 3 (0, 0))) (hb : base ≤ go) (hc : x.length ≤ cap) (hm : cap ≤ maxLen) (hs : cur.size = cap) (ht : cur.toList.take x.length = x.map (Value.int .i64)) :
  Kd.R (Kd.int .i64) 3 W base (fun _ => True) (.slice (some ⟨go, 0, none⟩) x.length cap) x :=
 Kd.R_of_own (by simpa [encs] using (show W.ownsRow base 3 1 (.slice (some ⟨go, 0, none⟩) x.length cap) x.length (x.map (Value.int .i64)) from ⟨by simp, .inr ⟨go, cap, cur, rfl, hb, hh, hc, hm, by omega, by rw [Nat.mul_one]; exact ht⟩⟩)) (fun _ _ => trivial)
theorem er_delete (base : Nat) (v : Value) (xs : List Int) (i j : Int) (t : List Int) (w : World) (HR : Kd.R (Kd.int .i64) 3 w base (fun _ => True) v xs) (h : delI xs i = some t) (hj : j = wrap64 (i + 1)) :
  Calls Try.prog 107 #[v, .int .i64 i, .int .i64 j] w fun e w' => ∃ v' : Value, e = .returned v' ∧ Kd.R (Kd.int .i64) 3 w' base (fun _ => True) v' t ∧ Below base w w' := by
 have ho := Kd.own_of_R HR
 unfold delI at h
 by_cases hc : 0 ≤ i ∧ i < (xs.length : Int)
 ·
  rw [if_pos hc] at h
  obtain rfl := Option.some.inj h
  obtain ⟨n, rfl⟩ := Int.eq_ofNat_of_zero_le hc.1
  have hn : n < xs.length := by omega
  rcases ho.2 with ⟨rfl, hn0⟩ | ⟨g, cap, cur, rfl, hb, hh, hnc, hcm, hcs, ht⟩
  ·
   omega
  ·
   have hlt : g < w.heap.size := (Array.getElem?_eq_some_iff.1 hh).1
   have hcm' : cap ≤ 9223372036854775807 := by unfold maxLen at hcm; omega
   have ht' : cur.toList.take xs.length = xs.map (Value.int .i64) := by simpa [encs] using ht
   have hj' : j = ((n + 1 : Nat) : Int) := by rw [hj]; unfold wrap64; omega
   subst hj'
   have hcon := Any.slices_Delete_int Try.laysDe g 0 cap n (n + 1) xs w (holds_of_blockI hh ht') hnc hcm' (by omega) (by omega)
   change Calls Try.prog 107 _ _ _ at hcon
   refine hcon.mono fun e w' hw => ?_
   obtain ⟨he, q, rfl⟩ := hw
   rw [Int.toNat_natCast]
   refine ⟨_, he, Kd.R_of_own ?_ (fun _ _ => trivial), Lib.below_putRow (Below.refl base w) hb⟩
   have hl : (xs.take n ++ xs.drop (n + 1)).length = xs.length - 1 := by simp; omega
   have h2 := Lib.ownsRow_putRow (enc := Value.int .i64) (q := q) (k := xs.length - 1) (zs := xs) (ys := xs.take n ++ xs.drop (n + 1) ++ List.replicate (n + 1 - n) 0) (by simpa [encs] using ho) (by simp; omega) (by omega)
   have e1 : (xs.take n ++ xs.drop (n + 1) ++ List.replicate (n + 1 - n) (0 : Int)).take (xs.length - 1) = xs.take n ++ xs.drop (n + 1) := List.take_left' hl
   rw [e1] at h2
   rw [hl, show xs.length - (n + 1 - n) = xs.length - 1 by omega]
   exact h2
 ·
  rw [if_neg hc] at h
  cases h
theorem add_at1 (g o t : Nat) : (⟨g, o, none⟩ : Addr).add t = ⟨g, o + t, none⟩ := by unfold Addr.add; split <;> simp_all
theorem map_one (xs : List Int) : ∀ v ∈ xs.map (Value.int .i64), v.oneCell' = true := by
 intro v hv
 obtain ⟨x, _, rfl⟩ := List.mem_map.1 hv
 rfl
theorem below_rows {B go : Nat} {w : World} (hg : B ≤ go) : ∀ (vs : List Value) (o : Nat) (W : World), Below B w W → Below B w (W.setCells go o vs)
 | [], _, _, h => h
 | v :: vs, o, W, h => below_rows hg vs (o + 1) _ (h.setCell hg v)
theorem er_insert {ok ok2 : Nat → Prop} (base : Nat) (v vv : Value) (xs ys : List Int) (i p : Int) (t : List Int) (w : World) (HR0 : Kd.R (Kd.int .i64) 3 w base ok v xs) (HV0 : Kd.R (Kd.int .i64) 3 w base ok2 vv ys) (hy : ys = [p]) (hne0 : ∀ k, ok2 k → some k ≠ v.ownBlock) (h : insI xs i p = some t) (hbs : base ≤ w.heap.size) :
  Calls Try.prog 108 #[v, .int .i64 i, vv] w fun e w' => ∃ v' : Value, e = .returned v' ∧ Kd.R (Kd.int .i64) 3 w' base (fun _ => True) v' t ∧ Below base w w' := by
 subst hy
 have HR := Kd.R_mono HR0 (ok' := fun _ => True) (fun _ _ => trivial)
 have HV := Kd.R_mono HV0 (ok' := fun _ => True) (fun _ _ => trivial)
 have ho := Kd.own_of_R HR
 have hov := Kd.own_of_R HV
 have hok := HV0.1
 clear HR0 HV0
 unfold insI at h
 by_cases hc : (0 ≤ i ∧ i ≤ (xs.length : Int)) ∧ xs.length ≤ 1000000000
 ·
  rw [if_pos hc] at h
  obtain rfl := Option.some.inj h
  obtain ⟨n, rfl⟩ := Int.eq_ofNat_of_zero_le hc.1.1
  have hn : n ≤ xs.length := by omega
  have hlim := hc.2
  rw [Int.toNat_natCast]
  have hlx : (xs.take n ++ [p] ++ xs.drop n).length = xs.length + 1 := by simp; omega
  rcases hov.2 with ⟨e0, _⟩ | ⟨g2, cap2, cur2, e0, hb2, hh2, hnc2, hcm2, hcs2, ht2⟩
  ·
   have := hov.1
   simp_all
  obtain ⟨gv, rfl⟩ : ∃ gv, gv = g2 := ⟨_, rfl⟩
  subst e0
  have hne : some gv ≠ v.ownBlock := hne0 gv (hok gv rfl)
  have hvlt : gv < w.heap.size := (Array.getElem?_eq_some_iff.1 hh2).1
  have hz2 : 1 ≤ cur2.size := by have h1 : [p].length ≤ cap2 := hnc2; simp at h1; omega
  have hc0 : cur2[0]? = some (.int .i64 p) := by
   have h1 : (cur2.toList.take (1 * 1))[0]? = ([p].map (Value.int .i64))[0]? := by rw [show [p].map (Value.int .i64) = encs (Value.int .i64) [p] from rfl, ← ht2]; rfl
   simpa using h1
  have hvs : ∀ j u, ([p].map (Value.int .i64))[j]? = some u → w.cell? ⟨gv, 0 + j, none⟩ = some u := by
   intro j u hu
   have : j = 0 := by
    have := (List.getElem?_eq_some_iff.1 hu).1
    simpa using this
   subst this
   rw [blk_cell hh2]
   simpa [hc0] using hu
  have hroomV : (xs.length + 1) * 8 ≤ 140737488355328 := by omega
  rcases ho.2 with ⟨rfl, hn0⟩ | ⟨g, cap, cur, rfl, hb, hh, hnc, hcm, hcs, ht⟩
  ·
   obtain rfl : xs = [] := List.eq_nil_of_length_eq_zero hn0
   have hn' : n = 0 := by simpa using hn
   subst hn'
   have hcon := Any2.slices_Insert_int_end_grow Try.laysIn none 0 0 gv 0 1 cap2 [] ([p].map (Value.int .i64)) w (by decide) (Nat.le_refl _) (by decide) (by decide) rfl rfl (fun _ => rfl) (fun a ha => by cases ha) hvs (map_one [p])
   change Calls Try.prog 108 _ _ _ at hcon
   refine hcon.mono fun e w' hw => ?_
   obtain ⟨he, hw⟩ := hw
   have hG : 1 ≤ grownCap w (0 + 1) 0 3 := grownCap_ge w _ _ _
   have hGm : grownCap w (0 + 1) 0 3 ≤ maxLen := grownCap_le_maxLen w _ 0 3 (by unfold maxLen; omega)
   change e = .returned (.slice (some ⟨w.heap.size, 0, none⟩) (0 + 1) (grownCap w (0 + 1) 0 3)) at he
   change w' = w.drew.alloc (.cells (([] ++ [p].map (Value.int .i64)).toArray ++ Builtin.zeroCells (Value.int .i64 0).cells (grownCap w (0 + 1) 0 3 - (0 + 1))) 3) at hw
   generalize grownCap w (0 + 1) 0 3 = G at he hw hG hGm
   refine ⟨_, he, ?_, ?_⟩
   ·
    rw [hw]
    exact R_mk1 (x := [p]) _ (blk_new w.drew _) hbs hG hGm (by simp [Builtin.zeroCells, Value.cells]; omega) (by simp)
   ·
    rw [hw]
    exact (below_drew1 (Below.refl base w)).alloc hbs _
  ·
   have hlt : g < w.heap.size := (Array.getElem?_eq_some_iff.1 hh).1
   have hcm' : cap ≤ 9223372036854775807 := by unfold maxLen at hcm; omega
   have hcs' : cur.size = cap := by omega
   have ht' : cur.toList.take xs.length = xs.map (Value.int .i64) := by simpa [encs] using ht
   have hne' : gv ≠ g := fun e => hne (by simp [Value.ownBlock, e])
   have hcells : ∀ j u, (xs.map (Value.int .i64))[j]? = some u → w.cell? ⟨g, 0 + j, none⟩ = some u := by
    intro j u hu
    have hj : j < xs.length := by have := (List.getElem?_eq_some_iff.1 hu).1; simpa using this
    rw [blk_cell hh, Nat.zero_add, ← Array.getElem?_toList, ← hu, ← ht', List.getElem?_take_of_lt hj]
   have hsome : ∀ q, q < cap → (w.cell? ⟨g, q, none⟩).isSome = true := fun q hq => by rw [blk_cell hh, Array.getElem?_eq_getElem (by omega)]; rfl
   by_cases hroom : xs.length + 1 ≤ cap
   ·
    by_cases hi : n < xs.length
    ·
     have hcon := Any2.slices_Insert_int_shift Try.laysIn g 0 xs.length cap n gv 0 1 cap2 (xs.map (Value.int .i64)) ([p].map (Value.int .i64)) w hi (by decide) hroom hcm' hne' (by simp) rfl hcells (fun j hj => hsome _ (by omega)) (fun j hj => blk_frozen hh _) hvs (map_one xs) (map_one [p]) 3 3 cur2.size cur.size (by unfold World.shape?; rw [hh2]) (by unfold World.shape?; rw [hh]) (by omega) (blk_frozen hh2 _) (blk_frozen hh2 _)
     change Calls Try.prog 108 _ _ _ at hcon
     refine hcon.mono fun e w' hw => ?_
     obtain ⟨he, rfl⟩ := hw
     obtain ⟨cur1, h1, z1, l1⟩ := setCells_row ((xs.map (Value.int .i64)).drop n) (0 + (n + 1)) w.drew cur hh (by simp; omega)
     obtain ⟨cur3, h3, z3, l3⟩ := setCells_row ([p].map (Value.int .i64)) (0 + n) _ cur1 h1 (by rw [z1]; simp; omega)
     have hfin : cur3.toList.take (xs.take n ++ [p] ++ xs.drop n).length = (xs.take n ++ [p] ++ xs.drop n).map (Value.int .i64) := by
      have e0 : cur.toList.take n = (xs.take n).map (Value.int .i64) := by
       rw [List.map_take, ← ht', List.take_take, Nat.min_eq_left (by omega)]
      have hcl : cur.toList.length = cap := by rw [Array.length_toList, hcs']
      have e1 : cur1.toList.take (0 + n) = (xs.take n).map (Value.int .i64) := by
       rw [Nat.zero_add, l1, List.append_assoc, List.take_append_of_le_length (by rw [List.length_take]; omega), List.take_take, Nat.min_eq_left (by omega), e0]
      have e2 : cur1.toList.drop (0 + n + ([p].map (Value.int .i64)).length) = (xs.map (Value.int .i64)).drop n ++ cur.toList.drop (0 + (n + 1) + ((xs.map (Value.int .i64)).drop n).length) := by
       rw [l1, List.append_assoc, List.drop_left' (by rw [List.length_take, hcl]; show min _ _ = 0 + n + 1; omega)]
      rw [l3, e1, e2, List.map_append, List.map_append, ← List.append_assoc, ← List.map_drop]
      refine List.take_left' ?_
      rw [hlx]
      simp
      omega
     have hR := R_mk1 (base := base) (cap := cap) (x := xs.take n ++ [p] ++ xs.drop n) cur3 h3 hb (by rw [hlx]; exact hroom) hcm (by rw [z3, z1, hcs']) hfin
     rw [hlx] at hR
     exact ⟨_, he, hR, below_rows hb _ _ _ (below_rows hb _ _ _ (below_drew1 (Below.refl base w)))⟩
    ·
     have hn' : n = xs.length := by omega
     subst hn'
     have hcon := Any2.slices_Insert_int_end_room Try.laysIn g 0 xs.length cap gv 0 1 cap2 ([p].map (Value.int .i64)) w (by decide) hroom hcm' rfl (fun j hj => hsome _ (by omega)) (fun j hj => blk_frozen hh _) hvs (map_one [p])
     change Calls Try.prog 108 _ _ _ at hcon
     refine hcon.mono fun e w' hw => ?_
     obtain ⟨he, rfl⟩ := hw
     obtain ⟨cur1, h1, z1, l1⟩ := setCells_row ([p].map (Value.int .i64)) (0 + xs.length) w cur hh (by simp; omega)
     have hR := R_mk1 (base := base) (cap := cap) (x := xs.take xs.length ++ [p] ++ xs.drop xs.length) cur1 h1 hb (by rw [hlx]; exact hroom) hcm (by rw [z1, hcs']) (by
      rw [hlx, l1, Nat.zero_add, ht', List.take_length, List.drop_length, List.append_nil, List.map_append]
      exact List.take_left' (by simp))
     rw [hlx] at hR
     exact ⟨_, he, hR, below_rows hb _ _ _ (Below.refl base w)⟩
   ·
    by_cases hi : n < xs.length
    ·
     have hcon := Any2.slices_Insert_int_grow Try.laysIn g 0 xs.length cap n gv 0 1 cap2 (xs.map (Value.int .i64)) ([p].map (Value.int .i64)) w hi (by decide) hnc (by omega) hroomV (by simp) rfl hcells hvs (map_one xs) (map_one [p])
     change Calls Try.prog 108 _ _ _ at hcon
     refine hcon.mono fun e w' hw => ?_
     obtain ⟨he, hw⟩ := hw
     have hG : xs.length + 1 ≤ grownCap w (xs.length + 1) cap 3 := grownCap_ge w _ _ _
     have hGm : grownCap w (xs.length + 1) cap 3 ≤ maxLen := grownCap_le_maxLen w _ cap 3 (by unfold maxLen; omega)
     change e = .returned (.slice (some ⟨w.heap.size, 0, none⟩) (xs.length + 1) (grownCap w (xs.length + 1) cap 3)) at he
     change w' = (((w.alloc (.cells (((xs.map (Value.int .i64)).take n).toArray ++ Builtin.zeroCells (Value.int .i64 0).cells (xs.length + 1 - n) ++ Builtin.zeroCells (Value.int .i64 0).cells (grownCap w (xs.length + 1) cap 3 - (xs.length + 1))) 3)).drew.setCells w.heap.size n ([p].map (Value.int .i64))).drew).setCells w.heap.size (n + 1) ((xs.map (Value.int .i64)).drop n) at hw
     generalize grownCap w (xs.length + 1) cap 3 = G at he hw hG hGm
     obtain ⟨cur0, hcur0⟩ : ∃ c, c = ((xs.map (Value.int .i64)).take n).toArray ++ Builtin.zeroCells (Value.int .i64 0).cells (xs.length + 1 - n) ++ Builtin.zeroCells (Value.int .i64 0).cells (G - (xs.length + 1)) := ⟨_, rfl⟩
     have hz0 : cur0.size = G := by rw [hcur0]; simp [Builtin.zeroCells, Value.cells]; omega
     have ht0 : cur0.toList.take n = (xs.take n).map (Value.int .i64) := by
      rw [hcur0, Array.toList_append, Array.toList_append, List.append_assoc, List.take_left' (by simp; omega), List.map_take]
     rw [← hcur0] at hw
     have h0 : (w.alloc (.cells cur0 3)).drew.heap[w.heap.size]? = some (.cells cur0 3 (0, 0)) := blk_drew (blk_new w _)
     obtain ⟨cur1, h1, z1, l1⟩ := setCells_row ([p].map (Value.int .i64)) n _ cur0 h0 (by simp; omega)
     obtain ⟨cur3, h3, z3, l3⟩ := setCells_row ((xs.map (Value.int .i64)).drop n) (n + 1) _ cur1 (blk_drew h1) (by rw [z1]; simp; omega)
     have hfin : cur3.toList.take (xs.take n ++ [p] ++ xs.drop n).length = (xs.take n ++ [p] ++ xs.drop n).map (Value.int .i64) := by
      have e1 : cur1.toList.take (n + 1) = (xs.take n).map (Value.int .i64) ++ [p].map (Value.int .i64) := by
       rw [l1, ht0]
       exact List.take_left' (by simp; omega)
      rw [l3, e1, List.map_append, List.map_append, ← List.map_drop]
      exact List.take_left' (by rw [hlx]; simp; omega)
     have hR := R_mk1 (base := base) (cap := G) (x := xs.take n ++ [p] ++ xs.drop n) cur3 h3 hbs (by rw [hlx]; exact hG) hGm (by rw [z3, z1, hz0]) hfin
     rw [hlx] at hR
     refine ⟨_, he, by rw [hw]; exact hR, ?_⟩
     rw [hw]
     exact below_rows hbs _ _ _ (below_drew1 (below_rows hbs _ _ _ (below_drew1 ((Below.refl base w).alloc hbs _))))
    ·
     have hn' : n = xs.length := by omega
     subst hn'
     have hcon := Any2.slices_Insert_int_end_grow Try.laysIn (some ⟨g, 0, none⟩) xs.length cap gv 0 1 cap2 (xs.map (Value.int .i64)) ([p].map (Value.int .i64)) w (by decide) hnc (by omega) hroomV (by simp) rfl (fun h => by cases h) (fun a ha j u hu => by cases ha; rw [add_at1]; exact hcells j u hu) hvs (map_one [p])
     change Calls Try.prog 108 _ _ _ at hcon
     refine hcon.mono fun e w' hw => ?_
     obtain ⟨he, hw⟩ := hw
     have hG : xs.length + 1 ≤ grownCap w (xs.length + 1) cap 3 := grownCap_ge w _ _ _
     have hGm : grownCap w (xs.length + 1) cap 3 ≤ maxLen := grownCap_le_maxLen w _ cap 3 (by unfold maxLen; omega)
     change e = .returned (.slice (some ⟨w.heap.size, 0, none⟩) (xs.length + 1) (grownCap w (xs.length + 1) cap 3)) at he
     change w' = w.drew.alloc (.cells ((xs.map (Value.int .i64) ++ [p].map (Value.int .i64)).toArray ++ Builtin.zeroCells (Value.int .i64 0).cells (grownCap w (xs.length + 1) cap 3 - (xs.length + 1))) 3) at hw
     generalize grownCap w (xs.length + 1) cap 3 = G at he hw hG hGm
     have hR := R_mk1 (base := base) (cap := G) (x := xs.take xs.length ++ [p] ++ xs.drop xs.length) (W := w.drew.alloc (.cells ((xs.map (Value.int .i64) ++ [p].map (Value.int .i64)).toArray ++ Builtin.zeroCells (Value.int .i64 0).cells (G - (xs.length + 1))) 3)) _ (blk_new w.drew _) hbs (by rw [hlx]; exact hG) hGm (by simp [Builtin.zeroCells, Value.cells]; omega) (by
      rw [List.take_length, List.drop_length, List.append_nil, List.map_append, Array.toList_append]
      exact List.take_left' (by simp))
     rw [hlx] at hR
     refine ⟨_, he, by rw [hw]; exact hR, ?_⟩
     rw [hw]
     exact (below_drew1 (Below.refl base w)).alloc hbs _
 ·
  rw [if_neg hc] at h
  cases h
def impl_ErrBy.l0 : Nat → List Int → List (S63) → Int → Int → Option (List Int × Bool)
 | 0, _, _, _, _ => none
 | k + 1, x6, x17, x18, x19 => if x19 < x18 then (if 0 ≤ x19 then (if x19 < (x17.length : Int) then (if ((rd_T63 x17 x19).f0) = 1 then (if 0 ≤ ((rd_T63 x17 x19).f1) then (if ((rd_T63 x17 x19).f1) < (x6.length : Int) then (impl_ErrBy.l0 k (x6.set (((rd_T63 x17 x19).f1) : Int).toNat ((rd_T63 x17 x19).f2)) x17 x18 (wrap64 (x19 + 1))) else (none)) else (none)) else (if ((rd_T63 x17 x19).f0) = 2 then ((delI x6 ((rd_T63 x17 x19).f1)).bind fun t1120 => (impl_ErrBy.l0 k t1120 x17 x18 (wrap64 (x19 + 1)))) else ((insI x6 ((rd_T63 x17 x19).f1) ((rd_T63 x17 x19).f2)).bind fun t1126 => (impl_ErrBy.l0 k t1126 x17 x18 (wrap64 (x19 + 1)))))) else (none)) else (none)) else (some (x6, true))
def impl_ErrBy.f (k : Nat) (l0 : List Int) (l1 : List (S63)) : Option (List Int × Bool) := (impl_clone_int.f l0).bind fun t1113 => ((impl_AreSlips.f k l1 (l0.length : Int)).bind fun t1116 => (if t1116 = true then (impl_ErrBy.l0 k t1113 l1 (l1.length : Int) 0) else (some (t1113, false))))
set_option maxHeartbeats 8000000 in
set_option maxRecDepth 100000 in
theorem impl_ErrBy.calls (k : Nat) (A0 : Option Addr) (c0 : Nat) (l0 : List Int) (A1 : Option Addr) (c1 : Nat) (l1 : List (S63)) (r1 : List Int) (r2 : Bool) (w : World) (hr0 : Kd.C (Kd.int .i64) w A0 l0.length l0) (hc0 : l0.length ≤ c0) (hr1 : Kd.C k63 w A1 l1.length l1) (hc1 : l1.length ≤ c1) (h : impl_ErrBy.f k l0 l1 = some (r1, r2)) :
  Calls Try.prog 32 #[.slice A0 l0.length c0, .slice A1 l1.length c1] w fun e w' => ∃ v0_ : Value, e = .returned (.tuple #[v0_, .bool r2]) ∧ Kd.R (Kd.int .i64) 3 w' w.heap.size (fun _ => True) v0_ r1 ∧ Below w.heap.size w w' := by
 have hu63 := Try.underlying63
 have HR0 := Aside0.mk hr0
 have HC0 := Aside0.mk hc0
 clear hr0 hc0
 have HR1 := Aside0.mk hr1
 have HC1 := Aside0.mk hc1
 clear hr1 hc1
 have HB := Aside0.mk (Below.refl w.heap.size w)
 have H : ((impl_clone_int.f l0).bind fun t1113 => ((impl_AreSlips.f k l1 (l0.length : Int)).bind fun t1116 => (if t1116 = true then (impl_ErrBy.l0 k t1113 l1 (l1.length : Int) 0) else (some (t1113, false))))) = some (r1, r2) := h
 clear h
 replace H := Option.bind_eq_some_iff.mp H
 obtain ⟨t1113, A30, H⟩ := H
 try dsimp only at H
 have A3 := Aside0.mk A30
 clear A30
 replace H := Option.bind_eq_some_iff.mp H
 obtain ⟨t1116, A40, H⟩ := H
 try dsimp only at H
 have A4 := Aside0.mk A40
 clear A40
 by_cases c5 : t1116 = true
 ·
  subst c5
  rw [if_pos rfl] at H
  have H' := Aside0.mk H
  clear H
  go_enter Try.func32, Try.ntmps32
  go_wp2_with (first | ((with_reducible refine gate_callee (f := 105) rfl ?_); refine goesL_ (some 10) rfl rfl Try.func105 (by kernel_rfl) rfl #[.slice A0 l0.length c0] rfl (by (try simp only [List.map_toArray, List.map_cons, List.map_nil]); first | done | rfl | (simp only [List.length_drop, List.length_take]; rfl)) ?_; (with_reducible refine (impl_clone_int.calls _ _ l0 t1113 _ ?side1 ?side2 A3.out).mono ?_); (case side1 => repeat (first | exact HR0.out | (with_reducible refine Kd.C_alloc ?_ _) | (with_reducible refine Kd.C_drewN ?_ _) | (with_reducible refine Kd.C_drew ?_))); (case side2 => exact HC0.out); rintro e w6 ⟨v1114, rfl, ho0, hb⟩; refine ⟨_, rfl, ?_⟩; have n0_ := Aside0.mk (Kd.R_lower ho0 (below_size (by repeat (first | (with_reducible first | exact HB.out | apply below_alloc | apply pw_below_drewN | apply below_drew1) | exact HB.out)))); have n1_ := Aside0.mk (below_step (by repeat (first | (with_reducible first | exact HB.out | apply below_alloc | apply pw_below_drewN | apply below_drew1) | exact HB.out)) hb); clear HB; have HO1115 := n0_; have HB := n1_; clear n0_ n1_; (try clear hb); (try clear hb2); (try clear hk); (try clear hi); (try clear ho0)) | ((with_reducible refine gate_callee (f := 106) rfl ?_); refine goesL_ (some 14) rfl rfl Try.func106 (by kernel_rfl) rfl #[.slice A1 l1.length c1, .int .i64 (l0.length : Int)] rfl (by (try simp only [List.map_toArray, List.map_cons, List.map_nil]); first | done | rfl | (simp only [List.length_drop, List.length_take]; rfl)) ?_; (with_reducible refine (impl_AreSlips.calls k _ _ l1 (l0.length : Int) true _ ?side1 ?side2 A4.out).mono ?_); (case side1 => repeat (first | exact (Kd.C_below HR1.out HB.out) | (with_reducible refine Kd.C_alloc ?_ _) | (with_reducible refine Kd.C_drewN ?_ _) | (with_reducible refine Kd.C_drew ?_))); (case side2 => exact HC1.out); rintro e w7 ⟨rfl, hb⟩; refine ⟨_, rfl, ?_⟩; have n0_ := Aside0.mk (Kd.R_below (by (with_reducible repeat (first | apply Kd.R_alloc | apply Kd.R_drewN | apply Kd.R_drew)); exact HO1115.out) hb); have n1_ := Aside0.mk (below_step (by repeat (first | (with_reducible first | exact HB.out | apply below_alloc | apply pw_below_drewN | apply below_drew1) | exact HB.out)) hb); clear HO1115; clear HB; have HO1115 := n0_; have HB := n1_; clear n0_ n1_; (try clear hb); (try clear hb2); (try clear hk); (try clear hi)))
  go_loopg [6, 19] k (fun kq v6 v19 w' => ∃ (x6_1 : List Int) (x19_1 : Int), v19 = .int .i64 x19_1 ∧ Aside0 (impl_ErrBy.l0 kq x6_1 l1 (l1.length : Int) x19_1 = some (r1, r2)) ∧ Aside0 (kq ≤ k) ∧ Aside0 (Kd.R (Kd.int .i64) 3 w' w.heap.size (fun _ => True) v6 x6_1) ∧ Aside0 (Below w.heap.size w w'))
  case atStart => exact ⟨(t1113), (0), (by first | rfl | (simp; done) | (simp [*]; done)), H', ⟨Nat.le_refl _⟩, ⟨by (with_reducible repeat (first | apply Kd.R_alloc | apply Kd.R_drewN | apply Kd.R_drew)); exact HO1115.out⟩, ⟨by repeat (first | (with_reducible first | exact HB.out | apply below_alloc | apply pw_below_drewN | apply below_drew1) | exact HB.out)⟩⟩
  case round =>
   clear H'
   try clear c1
   try clear p2
   try clear c3
   try clear c5
   obtain ⟨x6_1, x19_1, rfl, HA, HK1, HO_6, HB⟩ := hrel
   cases gk with
   | zero => exact absurd HA.out (by simp [impl_ErrBy.l0])
   | succ k1 =>
    have H := HA.out
    clear HA
    simp only [impl_ErrBy.l0] at H
    by_cases c8 : x19_1 < (l1.length : Int)
    ·
     rw [if_pos c8] at H
     have c8b0 : decide (x19_1 < (l1.length : Int)) = true := decide_eq_true c8
     clear c8
     by_cases c9 : 0 ≤ x19_1
     ·
      rw [if_pos c9] at H
      have c9b0 : decide (0 ≤ x19_1) = true := decide_eq_true c9
      clear c9
      by_cases c10 : x19_1 < (l1.length : Int)
      ·
       rw [if_pos c10] at H
       have c10b0 : decide (x19_1 < (l1.length : Int)) = true := decide_eq_true c10
       clear c10
       by_cases c11 : ((rd_T63 l1 x19_1).f0) = 1
       ·
        rw [if_pos c11] at H
        have c11b0 : (((rd_T63 l1 x19_1).f0) == 1) = true := beq_iff_eq.mpr c11
        have c11b1 : (((rd_T63 l1 x19_1).f0) != 1) = false := bne_eq_false_iff_eq.mpr c11
        clear c11
        by_cases c12 : 0 ≤ ((rd_T63 l1 x19_1).f1)
        ·
         rw [if_pos c12] at H
         have c12b0 : decide (0 ≤ ((rd_T63 l1 x19_1).f1)) = true := decide_eq_true c12
         clear c12
         by_cases c13 : ((rd_T63 l1 x19_1).f1) < (x6_1.length : Int)
         ·
          rw [if_pos c13] at H
          have c13b0 : decide (((rd_T63 l1 x19_1).f1) < (x6_1.length : Int)) = true := decide_eq_true c13
          clear c13
          obtain ⟨y1119, hy1119⟩ : ∃ y_ : List Int, y_ = (x6_1.set (((rd_T63 l1 x19_1).f1) : Int).toNat ((rd_T63 l1 x19_1).f2)) := ⟨_, rfl⟩
          replace H : (impl_ErrBy.l0 k1 y1119 l1 (l1.length : Int) (wrap64 (x19_1 + 1))) = some (r1, r2) := by first | (rw [hy1119]; with_reducible exact H) | (have H2_ := (Option.bind_some _ _).symm.trans H; rw [hy1119]; with_reducible exact H2_) | (have H2_ := (Option.bind_some _ _).symm.trans H; with_reducible exact H2_) | with_reducible exact H | (rw [hy1119]; exact H) | exact H
          have Ny1119 := Aside0.mk hy1119
          clear hy1119
          have H' := Aside0.mk H
          clear H
          have p1117 : 0 ≤ (x19_1 : Int) := of_decide_eq_true (by first | (with_reducible assumption) | assumption)
          have q1117 : x19_1 < (l1.length : Int) := of_decide_eq_true (by first | (with_reducible assumption) | assumption)
          obtain ⟨ad1117, e1117, hx1117_0, hx1117_1, hx1117_2⟩ := at_T63 HR1.out x19_1 p1117 q1117
          cases e1117
          replace hx1117_0 := (HB.out.cell (World.block_lt_of_cell? w _ hx1117_0)).trans hx1117_0
          replace hx1117_1 := (HB.out.cell (World.block_lt_of_cell? w _ hx1117_1)).trans hx1117_1
          replace hx1117_2 := (HB.out.cell (World.block_lt_of_cell? w _ hx1117_2)).trans hx1117_2
          replace p1117 := eq_true p1117
          replace q1117 := eq_true q1117
          go_wp2_with (first | ((with_reducible refine gate_dst (N := 8) rfl ?_); refine box_event ?hg (N := 8) ?hd (cs := #[.int .i64 0, .int .i64 0, .int .i64 0]) (t := 63) ?hr ?_; (case hd => rfl); (case hg => rfl); (case hr => first | (go_simp; done) | (go_simp; rfl)); intro gb1118 hg w15 hbox hb; have n0_ := Aside0.mk (Kd.R_below (by (with_reducible repeat (first | apply Kd.R_alloc | apply Kd.R_drewN | apply Kd.R_drew)); exact HO_6.out) hb); have n1_ := Aside0.mk (below_step (by repeat (first | (with_reducible first | exact HB.out | apply below_alloc | apply pw_below_drewN | apply below_drew1) | exact HB.out)) hb); have n2_ := Aside0.mk (hbox); have n3_ := Aside0.mk ((by rw [hg]; exact (below_size (by repeat (first | (with_reducible first | exact HB.out | apply below_alloc | apply pw_below_drewN | apply below_drew1) | exact HB.out))) : w.heap.size ≤ gb1118)); have n4_ := Aside0.mk ((by rw [hg]; exact (below_size (by repeat (first | (with_reducible first | exact HB.out | apply below_alloc | apply pw_below_drewN | apply below_drew1) | exact HB.out))) : w.heap.size ≤ gb1118)); clear HO_6; clear HB; have HO_6 := n0_; have HB := n1_; have BK1118 := n2_; have GW1118 := n3_; have GE1118 := n4_; clear n0_ n1_ n2_ n3_ n4_; clear hb hbox hg; have hcz16_0 : w15.cell? ⟨gb1118, 0, none⟩ = some (.int .i64 0) := (blk_cell BK1118.out 0).trans rfl; have hcz16_1 : w15.cell? ⟨gb1118, 1, none⟩ = some (.int .i64 0) := (blk_cell BK1118.out 1).trans rfl; have hcz16_2 : w15.cell? ⟨gb1118, 2, none⟩ = some (.int .i64 0) := (blk_cell BK1118.out 2).trans rfl; have hfz16_0 := blk_frozen BK1118.out 0; have hfz16_1 := blk_frozen BK1118.out 1; have hfz16_2 := blk_frozen BK1118.out 2) | ((with_reducible refine gate_store (t := 63) (p := 8) rfl ?_); refine store_event (t := 63) (p := 8) (v := ?vo_w17) (w1 := (((w15.setCell ⟨gb1118, 0, none⟩ (.int .i64 ((rd_T63 l1 x19_1).f0))).setCell ⟨gb1118, 1, none⟩ (.int .i64 ((rd_T63 l1 x19_1).f1))).setCell ⟨gb1118, 2, none⟩ (.int .i64 ((rd_T63 l1 x19_1).f2)))) ?hg ?ho ?hn ?hr ?_; (case ho => rfl); (case hg => rfl); (case hn => rfl); (case hr => first | (go_simp; done) | (go_simp; rfl)); intro w17 hw; have n0_ : Aside0 (Kd.R (Kd.int .i64) 3 w17 w.heap.size (fun _ => True) u6 x6_1) := ⟨(by rw [hw]; exact (by (with_reducible repeat (first | apply Kd.R_alloc | apply Kd.R_drewN | apply Kd.R_drew)); exact Kd.R_mono (Kd.R_far (p := ⟨gb1118, 2, none⟩) (Kd.R_far (p := ⟨gb1118, 1, none⟩) (Kd.R_far (p := ⟨gb1118, 0, none⟩) (Kd.R_types HO_6.out BK1118.out (by decide)) (fun _ hk => hk.2) (.int .i64 ((rd_T63 l1 x19_1).f0))) (fun _ hk => hk.2) (.int .i64 ((rd_T63 l1 x19_1).f1))) (fun _ hk => hk.2) (.int .i64 ((rd_T63 l1 x19_1).f2))) (fun _ hk => trivial)))⟩; have n1_ : Aside0 (w17.heap[gb1118]? = some (.cells #[.int .i64 ((rd_T63 l1 x19_1).f0), .int .i64 ((rd_T63 l1 x19_1).f1), .int .i64 ((rd_T63 l1 x19_1).f2)] 63 (0, 0))) := ⟨(by rw [hw]; exact (by (with_reducible repeat (first | refine blk_drewN ?_ _ | refine blk_drew ?_ | refine blk_alloc ?_ _)); refine blk_put (cs := #[.int .i64 ((rd_T63 l1 x19_1).f0), .int .i64 ((rd_T63 l1 x19_1).f1), .int .i64 0]) ?_ 2 _ rfl; (with_reducible repeat (first | refine blk_drewN ?_ _ | refine blk_drew ?_ | refine blk_alloc ?_ _)); refine blk_put (cs := #[.int .i64 ((rd_T63 l1 x19_1).f0), .int .i64 0, .int .i64 0]) ?_ 1 _ rfl; (with_reducible repeat (first | refine blk_drewN ?_ _ | refine blk_drew ?_ | refine blk_alloc ?_ _)); refine blk_put (cs := #[.int .i64 0, .int .i64 0, .int .i64 0]) ?_ 0 _ rfl; (with_reducible repeat (first | refine blk_drewN ?_ _ | refine blk_drew ?_ | refine blk_alloc ?_ _)); exact BK1118.out))⟩; have n2_ : Aside0 (Below w.heap.size w w17) := ⟨(by rw [hw]; exact (by repeat (first | (with_reducible first | exact HB.out | apply below_alloc | apply pw_below_drewN | apply below_drew1 | refine below_set ?_ GE1118.out) | exact HB.out)))⟩; clear hw; clear HO_6; clear BK1118; clear HB; have HO_6 := n0_; have BK1118 := n1_; have HB := n2_; clear n0_ n1_ n2_; have hcz18_0 : w17.cell? ⟨gb1118, 0, none⟩ = some (.int .i64 ((rd_T63 l1 x19_1).f0)) := (blk_cell BK1118.out 0).trans rfl; have hcz18_1 : w17.cell? ⟨gb1118, 1, none⟩ = some (.int .i64 ((rd_T63 l1 x19_1).f1)) := (blk_cell BK1118.out 1).trans rfl; have hcz18_2 : w17.cell? ⟨gb1118, 2, none⟩ = some (.int .i64 ((rd_T63 l1 x19_1).f2)) := (blk_cell BK1118.out 2).trans rfl; have hfz18_0 := blk_frozen BK1118.out 0; have hfz18_1 := blk_frozen BK1118.out 1; have hfz18_2 := blk_frozen BK1118.out 2; have p14 : 0 ≤ (((rd_T63 l1 x19_1).f1) : Int) := of_decide_eq_true (by first | (with_reducible assumption) | assumption); have q14 : (((rd_T63 l1 x19_1).f1) : Int) < ((x6_1.length : Int) : Int) := of_decide_eq_true (by first | (with_reducible assumption) | assumption); obtain ⟨go14, co14, eo14, gb14, gl14, cl14, HG14⟩ := Kd.R_form HO_6.out (by omega); (first | cases eo14 | (injection eo14 with ea_ en_ ec_; (first | subst ea_ | (injection ea_ with ea_; subst ea_)); subst ec_; clear en_)); have GB14 := Aside0.mk gb14; have GG14 := Aside0.mk HG14; clear gb14 gl14 HG14; obtain ⟨hx14_0, hf14_0⟩ := Kd.R_celln 0 HO_6.out (((rd_T63 l1 x19_1).f1) : Int) p14 q14; replace p14 := eq_true p14; replace q14 := eq_true q14; obtain ⟨hy19_, hz19_⟩ := Kd.R_celln 0 HO_6.out (((rd_T63 l1 x19_1).f1) : Int) (of_decide_eq_true (by first | (with_reducible assumption) | assumption)) (of_decide_eq_true (by first | (with_reducible assumption) | assumption)); have HP19 := Kd.R_putg HO_6.out (((rd_T63 l1 x19_1).f1) : Int) ((rd_T63 l1 x19_1).f2)) | ((with_reducible refine gate_store (t := 3) (p := 39) rfl ?_); refine store_event (t := 3) (p := 39) (v := ?vo_w20) (w1 := (w17.setCell ⟨go14, (((rd_T63 l1 x19_1).f1) : Int).toNat, none⟩ (.int .i64 ((rd_T63 l1 x19_1).f2)))) ?hg ?ho ?hn ?hr ?_; (case ho => rfl); (case hg => rfl); (case hn => rfl); (case hr => first | (go_simp; done) | (go_simp; rfl)); intro w20 hw; have hg : w17.grownBy w20 (some go14) := (by rw [hw]; exact HP19.2); have hp_ : Kd.R (Kd.int .i64) 3 w20 w.heap.size (fun _ => True) (.slice (some ⟨go14, 0, none⟩) x6_1.length co14) y1119 := (by rw [hw, Ny1119.out]; exact HP19.1); clear HP19; have n0_ := Aside0.mk (hp_); have n1_ := Aside0.mk (blk_grown (g := gb1118) (o := .cells #[.int .i64 ((rd_T63 l1 x19_1).f0), .int .i64 ((rd_T63 l1 x19_1).f1), .int .i64 ((rd_T63 l1 x19_1).f2)] 63 (0, 0)) (by (with_reducible repeat (first | refine blk_drewN ?_ _ | refine blk_drew ?_ | refine blk_alloc ?_ _)); exact BK1118.out) hg (Kd.R_ne HO_6.out BK1118.out (by decide))); have n2_ := Aside0.mk ((by rw [hw]; exact below_set (HB.out) GB14.out : Below w.heap.size w w20)); clear HO_6; clear BK1118; clear HB; have HO_6 := n0_; have BK1118 := n1_; have HB := n2_; clear n0_ n1_ n2_; clear hg hw hp_))
          go_roundg k1
          case measure => have := HK1.out; omega
          case rel => exact ⟨(y1119), (wrap64 (x19_1 + 1)), (by first | rfl | (simp; done) | (simp [*]; done)), H', ⟨by have := HK1.out; omega⟩, ⟨by (with_reducible repeat (first | apply Kd.R_alloc | apply Kd.R_drewN | apply Kd.R_drew)); exact HO_6.out⟩, ⟨by repeat (first | (with_reducible first | exact HB.out | apply below_alloc | apply pw_below_drewN | apply below_drew1 | refine below_set ?_ GE1118.out) | exact HB.out)⟩⟩
         ·
          rw [if_neg c13] at H
          exact absurd H (by simp)
        ·
         rw [if_neg c12] at H
         exact absurd H (by simp)
       ·
        rw [if_neg c11] at H
        have c11b0 : (((rd_T63 l1 x19_1).f0) == 1) = false := beq_eq_false_iff_ne.mpr c11
        have c11b1 : (((rd_T63 l1 x19_1).f0) != 1) = true := bne_iff_ne.mpr c11
        by_cases c21 : ((rd_T63 l1 x19_1).f0) = 2
        ·
         rw [if_pos c21] at H
         have c21b0 : (((rd_T63 l1 x19_1).f0) == 2) = true := beq_iff_eq.mpr c21
         have c21b1 : (((rd_T63 l1 x19_1).f0) != 2) = false := bne_eq_false_iff_eq.mpr c21
         clear c21
         replace H := Option.bind_eq_some_iff.mp H
         obtain ⟨t1120, A220, H⟩ := H
         try dsimp only at H
         have A22 := Aside0.mk A220
         clear A220
         have H' := Aside0.mk H
         clear H
         have p1117 : 0 ≤ (x19_1 : Int) := of_decide_eq_true (by first | (with_reducible assumption) | assumption)
         have q1117 : x19_1 < (l1.length : Int) := of_decide_eq_true (by first | (with_reducible assumption) | assumption)
         obtain ⟨ad1117, e1117, hx1117_0, hx1117_1, hx1117_2⟩ := at_T63 HR1.out x19_1 p1117 q1117
         cases e1117
         replace hx1117_0 := (HB.out.cell (World.block_lt_of_cell? w _ hx1117_0)).trans hx1117_0
         replace hx1117_1 := (HB.out.cell (World.block_lt_of_cell? w _ hx1117_1)).trans hx1117_1
         replace hx1117_2 := (HB.out.cell (World.block_lt_of_cell? w _ hx1117_2)).trans hx1117_2
         replace p1117 := eq_true p1117
         replace q1117 := eq_true q1117
         go_wp2_with (first | ((with_reducible refine gate_dst (N := 8) rfl ?_); refine box_event ?hg (N := 8) ?hd (cs := #[.int .i64 0, .int .i64 0, .int .i64 0]) (t := 63) ?hr ?_; (case hd => rfl); (case hg => rfl); (case hr => first | (go_simp; done) | (go_simp; rfl)); intro gb1118 hg w23 hbox hb; have n0_ := Aside0.mk (Kd.R_below (by (with_reducible repeat (first | apply Kd.R_alloc | apply Kd.R_drewN | apply Kd.R_drew)); exact HO_6.out) hb); have n1_ := Aside0.mk (below_step (by repeat (first | (with_reducible first | exact HB.out | apply below_alloc | apply pw_below_drewN | apply below_drew1) | exact HB.out)) hb); have n2_ := Aside0.mk (hbox); have n3_ := Aside0.mk ((by rw [hg]; exact (below_size (by repeat (first | (with_reducible first | exact HB.out | apply below_alloc | apply pw_below_drewN | apply below_drew1) | exact HB.out))) : w.heap.size ≤ gb1118)); have n4_ := Aside0.mk ((by rw [hg]; exact (below_size (by repeat (first | (with_reducible first | exact HB.out | apply below_alloc | apply pw_below_drewN | apply below_drew1) | exact HB.out))) : w.heap.size ≤ gb1118)); clear HO_6; clear HB; have HO_6 := n0_; have HB := n1_; have BK1118 := n2_; have GW1118 := n3_; have GE1118 := n4_; clear n0_ n1_ n2_ n3_ n4_; clear hb hbox hg; have hcz24_0 : w23.cell? ⟨gb1118, 0, none⟩ = some (.int .i64 0) := (blk_cell BK1118.out 0).trans rfl; have hcz24_1 : w23.cell? ⟨gb1118, 1, none⟩ = some (.int .i64 0) := (blk_cell BK1118.out 1).trans rfl; have hcz24_2 : w23.cell? ⟨gb1118, 2, none⟩ = some (.int .i64 0) := (blk_cell BK1118.out 2).trans rfl; have hfz24_0 := blk_frozen BK1118.out 0; have hfz24_1 := blk_frozen BK1118.out 1; have hfz24_2 := blk_frozen BK1118.out 2; obtain ⟨Ao25, co25, eo25⟩ := Kd.R_slice HO_6.out; subst eo25) | (go_at_call 107; refine Calls.mono (er_delete w.heap.size _ x6_1 _ _ t1120 _ ?side1 A22.out ?side2) ?_; (case side1 => exact (by (with_reducible repeat (first | apply Kd.R_alloc | apply Kd.R_drewN | apply Kd.R_drew)); exact (Kd.R_mono (Kd.R_far (p := ⟨gb1118, 2, none⟩) (Kd.R_far (p := ⟨gb1118, 1, none⟩) (Kd.R_far (p := ⟨gb1118, 0, none⟩) (Kd.R_types HO_6.out BK1118.out (by decide)) (fun _ hk => hk.2) (.int .i64 ((rd_T63 l1 x19_1).f0))) (fun _ hk => hk.2) (.int .i64 ((rd_T63 l1 x19_1).f1))) (fun _ hk => hk.2) (.int .i64 ((rd_T63 l1 x19_1).f2))) (fun _ h_ => h_.1)))); (case side2 => first | rfl | exact i64_w _ | simp only [i64_w]); rintro e w26 ⟨v1121, rfl, ho0, hb⟩; have n0_ := Aside0.mk ho0; have n1_ := Aside0.mk (Below.trans (by repeat (first | (with_reducible first | exact HB.out | apply below_alloc | apply pw_below_drewN | apply below_drew1 | refine below_set ?_ GE1118.out) | exact HB.out)) hb); clear HB; have HO1122 := n0_; have HB := n1_; clear n0_ n1_; (try clear hb); (try clear ho0)))
         go_roundg k1
         case measure => have := HK1.out; omega
         case rel => exact ⟨(t1120), (wrap64 (x19_1 + 1)), (by first | rfl | (simp; done) | (simp [*]; done)), H', ⟨by have := HK1.out; omega⟩, ⟨by (with_reducible repeat (first | apply Kd.R_alloc | apply Kd.R_drewN | apply Kd.R_drew)); exact Kd.R_mono HO1122.out (fun _ hk => trivial)⟩, ⟨by repeat (first | (with_reducible first | exact HB.out | apply below_alloc | apply pw_below_drewN | apply below_drew1 | refine below_set ?_ GE1118.out) | exact HB.out)⟩⟩
        ·
         rw [if_neg c21] at H
         have c21b0 : (((rd_T63 l1 x19_1).f0) == 2) = false := beq_eq_false_iff_ne.mpr c21
         have c21b1 : (((rd_T63 l1 x19_1).f0) != 2) = true := bne_iff_ne.mpr c21
         obtain ⟨y1123, hy1123⟩ : ∃ y_ : List Int, y_ = (([(rd_T63 l1 x19_1).f2] : List Int)) := ⟨_, rfl⟩
         replace H : ((insI x6_1 ((rd_T63 l1 x19_1).f1) ((rd_T63 l1 x19_1).f2)).bind fun t1126 => (impl_ErrBy.l0 k1 t1126 l1 (l1.length : Int) (wrap64 (x19_1 + 1)))) = some (r1, r2) := by first | (rw [hy1123]; with_reducible exact H) | (have H2_ := (Option.bind_some _ _).symm.trans H; rw [hy1123]; with_reducible exact H2_) | (have H2_ := (Option.bind_some _ _).symm.trans H; with_reducible exact H2_) | with_reducible exact H | (rw [hy1123]; exact H) | exact H
         have Ny1123 := Aside0.mk hy1123
         clear hy1123
         replace H := Option.bind_eq_some_iff.mp H
         obtain ⟨t1126, A270, H⟩ := H
         try dsimp only at H
         have A27 := Aside0.mk A270
         clear A270
         have H' := Aside0.mk H
         clear H
         have p1117 : 0 ≤ (x19_1 : Int) := of_decide_eq_true (by first | (with_reducible assumption) | assumption)
         have q1117 : x19_1 < (l1.length : Int) := of_decide_eq_true (by first | (with_reducible assumption) | assumption)
         obtain ⟨ad1117, e1117, hx1117_0, hx1117_1, hx1117_2⟩ := at_T63 HR1.out x19_1 p1117 q1117
         cases e1117
         replace hx1117_0 := (HB.out.cell (World.block_lt_of_cell? w _ hx1117_0)).trans hx1117_0
         replace hx1117_1 := (HB.out.cell (World.block_lt_of_cell? w _ hx1117_1)).trans hx1117_1
         replace hx1117_2 := (HB.out.cell (World.block_lt_of_cell? w _ hx1117_2)).trans hx1117_2
         replace p1117 := eq_true p1117
         replace q1117 := eq_true q1117
         go_wp2_with (first | ((with_reducible refine gate_dst (N := 8) rfl ?_); refine box_event ?hg (N := 8) ?hd (cs := #[.int .i64 0, .int .i64 0, .int .i64 0]) (t := 63) ?hr ?_; (case hd => rfl); (case hg => rfl); (case hr => first | (go_simp; done) | (go_simp; rfl)); intro gb1118 hg w28 hbox hb; have n0_ := Aside0.mk (Kd.R_below (by (with_reducible repeat (first | apply Kd.R_alloc | apply Kd.R_drewN | apply Kd.R_drew)); exact HO_6.out) hb); have n1_ := Aside0.mk (below_step (by repeat (first | (with_reducible first | exact HB.out | apply below_alloc | apply pw_below_drewN | apply below_drew1) | exact HB.out)) hb); have n2_ := Aside0.mk (hbox); have n3_ := Aside0.mk ((by rw [hg]; exact (below_size (by repeat (first | (with_reducible first | exact HB.out | apply below_alloc | apply pw_below_drewN | apply below_drew1) | exact HB.out))) : w.heap.size ≤ gb1118)); have n4_ := Aside0.mk ((by rw [hg]; exact (below_size (by repeat (first | (with_reducible first | exact HB.out | apply below_alloc | apply pw_below_drewN | apply below_drew1) | exact HB.out))) : w.heap.size ≤ gb1118)); clear HO_6; clear HB; have HO_6 := n0_; have HB := n1_; have BK1118 := n2_; have GW1118 := n3_; have GE1118 := n4_; clear n0_ n1_ n2_ n3_ n4_; clear hb hbox hg; have hcz29_0 : w28.cell? ⟨gb1118, 0, none⟩ = some (.int .i64 0) := (blk_cell BK1118.out 0).trans rfl; have hcz29_1 : w28.cell? ⟨gb1118, 1, none⟩ = some (.int .i64 0) := (blk_cell BK1118.out 1).trans rfl; have hcz29_2 : w28.cell? ⟨gb1118, 2, none⟩ = some (.int .i64 0) := (blk_cell BK1118.out 2).trans rfl; have hfz29_0 := blk_frozen BK1118.out 0; have hfz29_1 := blk_frozen BK1118.out 1; have hfz29_2 := blk_frozen BK1118.out 2) | ((with_reducible refine gate_dst (N := 30) rfl ?_); refine Kd.R_lit (Kd.int .i64) _ 3 ?hg (N := 30) ?hd (xs := ([(rd_T63 l1 x19_1).f2] : List Int)) (inner := [.int .i64 ((rd_T63 l1 x19_1).f2)]) (ok := fun _ => True) (okp := fun _ => True) ?hr ?hp (fun _ hk => hk) trivial (Below.refl _ _) (Nat.le_refl _) (by simp) ?_; (case hd => rfl); (case hg => rfl); (case hr => first | (go_simp; done) | (go_simp; rfl)); (case hp => exact (Reps.one (show Kd.M (Kd.int .i64) _ _ _ ((rd_T63 l1 x19_1).f2) [.int .i64 ((rd_T63 l1 x19_1).f2)] from rfl) (Reps.none _ _))); intro v1124 w30 ho31 hb hg_ hnew_; clear hg_ hnew_; (first | rw [← Ny1123.out] at ho31 | (simp only [Int.reduceToNat] at ho31; rw [← Ny1123.out] at ho31)); have n0_ := Aside0.mk (Kd.R_elder' (by (with_reducible repeat (first | apply Kd.R_alloc | apply Kd.R_drewN | apply Kd.R_drew)); exact (Kd.R_mono (Kd.R_far (p := ⟨gb1118, 2, none⟩) (Kd.R_far (p := ⟨gb1118, 1, none⟩) (Kd.R_far (p := ⟨gb1118, 0, none⟩) (Kd.R_types HO_6.out BK1118.out (by decide)) (fun _ hk => hk.2) (.int .i64 ((rd_T63 l1 x19_1).f0))) (fun _ hk => hk.2) (.int .i64 ((rd_T63 l1 x19_1).f1))) (fun _ hk => hk.2) (.int .i64 ((rd_T63 l1 x19_1).f2))) (fun _ h_ => h_.1))) (Kd.R_base ho31) hb); have n1_ := Aside0.mk (Kd.R_lower (Kd.R_new' ho31 (Kd.R_lt (by (with_reducible repeat (first | apply Kd.R_alloc | apply Kd.R_drewN | apply Kd.R_drew)); exact (Kd.R_mono (Kd.R_far (p := ⟨gb1118, 2, none⟩) (Kd.R_far (p := ⟨gb1118, 1, none⟩) (Kd.R_far (p := ⟨gb1118, 0, none⟩) (Kd.R_types HO_6.out BK1118.out (by decide)) (fun _ hk => hk.2) (.int .i64 ((rd_T63 l1 x19_1).f0))) (fun _ hk => hk.2) (.int .i64 ((rd_T63 l1 x19_1).f1))) (fun _ hk => hk.2) (.int .i64 ((rd_T63 l1 x19_1).f2))) (fun _ h_ => h_.1))))) (below_size (by repeat (first | (with_reducible first | exact HB.out | apply below_alloc | apply pw_below_drewN | apply below_drew1 | refine below_set ?_ GE1118.out) | exact HB.out)))); have n2_ := Aside0.mk (blk_below (g := gb1118) (o := .cells #[.int .i64 ((rd_T63 l1 x19_1).f0), .int .i64 ((rd_T63 l1 x19_1).f1), .int .i64 ((rd_T63 l1 x19_1).f2)] 63 (0, 0)) (by (with_reducible repeat (first | refine blk_drewN ?_ _ | refine blk_drew ?_ | refine blk_alloc ?_ _)); refine blk_put (cs := #[.int .i64 ((rd_T63 l1 x19_1).f0), .int .i64 ((rd_T63 l1 x19_1).f1), .int .i64 0]) ?_ 2 _ rfl; (with_reducible repeat (first | refine blk_drewN ?_ _ | refine blk_drew ?_ | refine blk_alloc ?_ _)); refine blk_put (cs := #[.int .i64 ((rd_T63 l1 x19_1).f0), .int .i64 0, .int .i64 0]) ?_ 1 _ rfl; (with_reducible repeat (first | refine blk_drewN ?_ _ | refine blk_drew ?_ | refine blk_alloc ?_ _)); refine blk_put (cs := #[.int .i64 0, .int .i64 0, .int .i64 0]) ?_ 0 _ rfl; (with_reducible repeat (first | refine blk_drewN ?_ _ | refine blk_drew ?_ | refine blk_alloc ?_ _)); exact BK1118.out) hb); have n3_ := Aside0.mk (below_step (by repeat (first | (with_reducible first | exact HB.out | apply below_alloc | apply pw_below_drewN | apply below_drew1 | refine below_set ?_ GE1118.out) | exact HB.out)) hb); clear HO_6; clear BK1118; clear HB; have HO_6 := n0_; have HO1125 := n1_; have BK1118 := n2_; have HB := n3_; clear n0_ n1_ n2_ n3_; clear hb ho31; obtain ⟨Ao32, co32, eo32⟩ := Kd.R_slice HO_6.out; subst eo32) | (go_at_call 108; refine Calls.mono (er_insert w.heap.size _ _ x6_1 _ _ _ t1126 _ HO_6.out HO1125.out Ny1123.out (fun k_ hk => hk.2) A27.out ?side3) ?_; (case side3 => exact (below_size (by repeat (first | (with_reducible first | exact HB.out | apply below_alloc | apply pw_below_drewN | apply below_drew1 | refine below_set ?_ GE1118.out) | exact HB.out)))); rintro e w33 ⟨v1127, rfl, ho0, hb⟩; have n0_ := Aside0.mk ho0; have n1_ := Aside0.mk (Below.trans (by repeat (first | (with_reducible first | exact HB.out | apply below_alloc | apply pw_below_drewN | apply below_drew1 | refine below_set ?_ GE1118.out) | exact HB.out)) hb); clear HB; have HO1128 := n0_; have HB := n1_; clear n0_ n1_; (try clear hb); (try clear ho0)))
         go_roundg k1
         case measure => have := HK1.out; omega
         case rel => exact ⟨(t1126), (wrap64 (x19_1 + 1)), (by first | rfl | (simp; done) | (simp [*]; done)), H', ⟨by have := HK1.out; omega⟩, ⟨by (with_reducible repeat (first | apply Kd.R_alloc | apply Kd.R_drewN | apply Kd.R_drew)); exact Kd.R_mono HO1128.out (fun _ hk => trivial)⟩, ⟨by repeat (first | (with_reducible first | exact HB.out | apply below_alloc | apply pw_below_drewN | apply below_drew1 | refine below_set ?_ GE1118.out) | exact HB.out)⟩⟩
      ·
       rw [if_neg c10] at H
       exact absurd H (by simp)
     ·
      rw [if_neg c9] at H
      exact absurd H (by simp)
    ·
     rw [if_neg c8] at H
     have c8b0 : decide (x19_1 < (l1.length : Int)) = false := decide_eq_false c8
     clear c8
     simp only [Option.some.injEq, Prod.mk.injEq] at H
     obtain ⟨rfl, rfl⟩ := H
     go_wp2
     go_ret2
     exact ⟨_, by first | rfl | (simp [errW_none, errW_some] <;> rfl) | (simp [*, errW_none, errW_some] <;> rfl), by (with_reducible repeat (first | apply Kd.R_alloc | apply Kd.R_drewN | apply Kd.R_drew)); exact HO_6.out, by repeat (first | (with_reducible first | exact HB.out | apply below_alloc | apply pw_below_drewN | apply below_drew1) | exact HB.out)⟩
 ·
  replace c5 := Bool.eq_false_iff.mpr c5
  subst c5
  rw [if_neg (show ¬ (false = true) by decide)] at H
  simp only [Option.some.injEq, Prod.mk.injEq] at H
  obtain ⟨rfl, rfl⟩ := H
  go_enter Try.func32, Try.ntmps32
  go_wp2_with (first | ((with_reducible refine gate_callee (f := 105) rfl ?_); refine goesL_ (some 10) rfl rfl Try.func105 (by kernel_rfl) rfl #[.slice A0 l0.length c0] rfl (by (try simp only [List.map_toArray, List.map_cons, List.map_nil]); first | done | rfl | (simp only [List.length_drop, List.length_take]; rfl)) ?_; (with_reducible refine (impl_clone_int.calls _ _ l0 t1113 _ ?side1 ?side2 A3.out).mono ?_); (case side1 => repeat (first | exact HR0.out | (with_reducible refine Kd.C_alloc ?_ _) | (with_reducible refine Kd.C_drewN ?_ _) | (with_reducible refine Kd.C_drew ?_))); (case side2 => exact HC0.out); rintro e w34 ⟨v1114, rfl, ho0, hb⟩; refine ⟨_, rfl, ?_⟩; have n0_ := Aside0.mk (Kd.R_lower ho0 (below_size (by repeat (first | (with_reducible first | exact HB.out | apply below_alloc | apply pw_below_drewN | apply below_drew1) | exact HB.out)))); have n1_ := Aside0.mk (below_step (by repeat (first | (with_reducible first | exact HB.out | apply below_alloc | apply pw_below_drewN | apply below_drew1) | exact HB.out)) hb); clear HB; have HO1115 := n0_; have HB := n1_; clear n0_ n1_; (try clear hb); (try clear hb2); (try clear hk); (try clear hi); (try clear ho0)) | ((with_reducible refine gate_callee (f := 106) rfl ?_); refine goesL_ (some 14) rfl rfl Try.func106 (by kernel_rfl) rfl #[.slice A1 l1.length c1, .int .i64 (l0.length : Int)] rfl (by (try simp only [List.map_toArray, List.map_cons, List.map_nil]); first | done | rfl | (simp only [List.length_drop, List.length_take]; rfl)) ?_; (with_reducible refine (impl_AreSlips.calls k _ _ l1 (l0.length : Int) false _ ?side1 ?side2 A4.out).mono ?_); (case side1 => repeat (first | exact (Kd.C_below HR1.out HB.out) | (with_reducible refine Kd.C_alloc ?_ _) | (with_reducible refine Kd.C_drewN ?_ _) | (with_reducible refine Kd.C_drew ?_))); (case side2 => exact HC1.out); rintro e w35 ⟨rfl, hb⟩; refine ⟨_, rfl, ?_⟩; have n0_ := Aside0.mk (Kd.R_below (by (with_reducible repeat (first | apply Kd.R_alloc | apply Kd.R_drewN | apply Kd.R_drew)); exact HO1115.out) hb); have n1_ := Aside0.mk (below_step (by repeat (first | (with_reducible first | exact HB.out | apply below_alloc | apply pw_below_drewN | apply below_drew1) | exact HB.out)) hb); clear HO1115; clear HB; have HO1115 := n0_; have HB := n1_; clear n0_ n1_; (try clear hb); (try clear hb2); (try clear hk); (try clear hi)))
  go_ret2
  exact ⟨_, by first | rfl | (simp [errW_none, errW_some] <;> rfl) | (simp [*, errW_none, errW_some] <;> rfl), by (with_reducible repeat (first | apply Kd.R_alloc | apply Kd.R_drewN | apply Kd.R_drew)); exact HO1115.out, by repeat (first | (with_reducible first | exact HB.out | apply below_alloc | apply pw_below_drewN | apply below_drew1) | exact HB.out)⟩
end Go.Proofs.Ytbhlmeghbfmgiaa.F

namespace Go.Proofs.Ytbhlmeghbfmgiaa.F
open Go.RowKit Go.Proofs.YtbhlmeghbfmgiaaW.PrintWords Go.Proofs.YtbhlmeghbfmgiaaW.PrintLast Go.Proofs.YtbhlmeghbfmgiaaW.PrintMore
attribute [local go_sem] max2_int min2_int max_two min_two max_three min_three max_four min_four
set_option linter.unusedVariables false
set_option linter.unusedSimpArgs false
def impl_CountReal.l0 : Nat → List Int → Int → List (S63) → Int → Int → Option (Int)
 | 0, _, _, _, _, _ => none
 | k + 1, x0, x5, x13, x14, x15 => if x15 < x14 then (if 0 ≤ x15 then (if x15 < (x13.length : Int) then (if ((rd_T63 x13 x15).f0) = 1 then (if 0 ≤ ((rd_T63 x13 x15).f1) then (if ((rd_T63 x13 x15).f1) < (x0.length : Int) then (if (rd x0 ((rd_T63 x13 x15).f1)) = ((rd_T63 x13 x15).f2) then (impl_CountReal.l0 k x0 x5 x13 x14 (wrap64 (x15 + 1))) else (impl_CountReal.l0 k x0 (wrap64 (x5 + 1)) x13 x14 (wrap64 (x15 + 1)))) else (none)) else (none)) else (impl_CountReal.l0 k x0 (wrap64 (x5 + 1)) x13 x14 (wrap64 (x15 + 1)))) else (none)) else (none)) else (some x5)
def impl_CountReal.f (k : Nat) (l0 : List Int) (l1 : List (S63)) : Option (Int) := (impl_AreSlips.f k l1 (l0.length : Int)).bind fun t1129 => (if t1129 = true then (impl_CountReal.l0 k l0 0 l1 (l1.length : Int) 0) else (some 0))
set_option maxHeartbeats 8000000 in
set_option maxRecDepth 100000 in
theorem impl_CountReal.calls (k : Nat) (A0 : Option Addr) (c0 : Nat) (l0 : List Int) (A1 : Option Addr) (c1 : Nat) (l1 : List (S63)) (r : Int) (w : World) (hr0 : Kd.C (Kd.int .i64) w A0 l0.length l0) (hc0 : l0.length ≤ c0) (hr1 : Kd.C k63 w A1 l1.length l1) (hc1 : l1.length ≤ c1) (h : impl_CountReal.f k l0 l1 = some r) :
  Calls Try.prog 33 #[.slice A0 l0.length c0, .slice A1 l1.length c1] w fun e w' => e = .returned (.int .i64 r) ∧ Below w.heap.size w w' := by
 have hu63 := Try.underlying63
 have HR0 := Aside0.mk hr0
 have HC0 := Aside0.mk hc0
 clear hr0 hc0
 have HR1 := Aside0.mk hr1
 have HC1 := Aside0.mk hc1
 clear hr1 hc1
 have HB := Aside0.mk (Below.refl w.heap.size w)
 have H : ((impl_AreSlips.f k l1 (l0.length : Int)).bind fun t1129 => (if t1129 = true then (impl_CountReal.l0 k l0 0 l1 (l1.length : Int) 0) else (some 0))) = some r := h
 clear h
 replace H := Option.bind_eq_some_iff.mp H
 obtain ⟨t1129, A30, H⟩ := H
 try dsimp only at H
 have A3 := Aside0.mk A30
 clear A30
 by_cases c4 : t1129 = true
 ·
  subst c4
  rw [if_pos rfl] at H
  have H' := Aside0.mk H
  clear H
  go_enter Try.func33, Try.ntmps33
  go_wp2_with (first | (go_at_call 106; (with_reducible refine (impl_AreSlips.calls k _ _ l1 (l0.length : Int) true _ ?side1 ?side2 A3.out).mono ?_); (case side1 => repeat (first | exact HR1.out | (with_reducible refine Kd.C_alloc ?_ _) | (with_reducible refine Kd.C_drewN ?_ _) | (with_reducible refine Kd.C_drew ?_))); (case side2 => exact HC1.out); rintro e w5 ⟨rfl, hb⟩; have n0_ := Aside0.mk (below_step (by repeat (first | (with_reducible first | exact HB.out | apply below_alloc | apply pw_below_drewN | apply below_drew1) | exact HB.out)) hb); clear HB; have HB := n0_; clear n0_; (try clear hb); (try clear hb2); (try clear hk); (try clear hi)))
  repeat (go_quiet (first | (go_at_call 106; (with_reducible refine (impl_AreSlips.calls k _ _ l1 (l0.length : Int) true _ ?side1 ?side2 A3.out).mono ?_); (case side1 => repeat (first | exact HR1.out | (with_reducible refine Kd.C_alloc ?_ _) | (with_reducible refine Kd.C_drewN ?_ _) | (with_reducible refine Kd.C_drew ?_))); (case side2 => exact HC1.out); rintro e w5 ⟨rfl, hb⟩; have n0_ := Aside0.mk (below_step (by repeat (first | (with_reducible first | exact HB.out | apply below_alloc | apply pw_below_drewN | apply below_drew1) | exact HB.out)) hb); clear HB; have HB := n0_; clear n0_; (try clear hb); (try clear hb2); (try clear hk); (try clear hi))); try go_wp2_with (first | (go_at_call 106; (with_reducible refine (impl_AreSlips.calls k _ _ l1 (l0.length : Int) true _ ?side1 ?side2 A3.out).mono ?_); (case side1 => repeat (first | exact HR1.out | (with_reducible refine Kd.C_alloc ?_ _) | (with_reducible refine Kd.C_drewN ?_ _) | (with_reducible refine Kd.C_drew ?_))); (case side2 => exact HC1.out); rintro e w5 ⟨rfl, hb⟩; have n0_ := Aside0.mk (below_step (by repeat (first | (with_reducible first | exact HB.out | apply below_alloc | apply pw_below_drewN | apply below_drew1) | exact HB.out)) hb); clear HB; have HB := n0_; clear n0_; (try clear hb); (try clear hb2); (try clear hk); (try clear hi))))
  go_loopg [5, 15] k (fun kq v5 v15 w' => ∃ (x5_1 : Int) (x15_1 : Int), v5 = .int .i64 x5_1 ∧ v15 = .int .i64 x15_1 ∧ Aside0 (impl_CountReal.l0 kq l0 x5_1 l1 (l1.length : Int) x15_1 = some r) ∧ Aside0 (kq ≤ k) ∧ Aside0 (Below w.heap.size w w'))
  case atStart => exact ⟨(0), (0), (by first | rfl | (simp; done) | (simp [*]; done)), (by first | rfl | (simp; done) | (simp [*]; done)), H', ⟨Nat.le_refl _⟩, ⟨by repeat (first | (with_reducible first | exact HB.out | apply below_alloc | apply pw_below_drewN | apply below_drew1) | exact HB.out)⟩⟩
  case round =>
   clear H'
   try clear c1
   try clear p2
   try clear c3
   try clear c4
   obtain ⟨x5_1, x15_1, rfl, rfl, HA, HK1, HB⟩ := hrel
   cases gk with
   | zero => exact absurd HA.out (by simp [impl_CountReal.l0])
   | succ k1 =>
    have H := HA.out
    clear HA
    simp only [impl_CountReal.l0] at H
    by_cases c6 : x15_1 < (l1.length : Int)
    ·
     rw [if_pos c6] at H
     have c6b0 : decide (x15_1 < (l1.length : Int)) = true := decide_eq_true c6
     clear c6
     by_cases c7 : 0 ≤ x15_1
     ·
      rw [if_pos c7] at H
      have c7b0 : decide (0 ≤ x15_1) = true := decide_eq_true c7
      clear c7
      by_cases c8 : x15_1 < (l1.length : Int)
      ·
       rw [if_pos c8] at H
       have c8b0 : decide (x15_1 < (l1.length : Int)) = true := decide_eq_true c8
       clear c8
       by_cases c9 : ((rd_T63 l1 x15_1).f0) = 1
       ·
        rw [if_pos c9] at H
        have c9b0 : (((rd_T63 l1 x15_1).f0) == 1) = true := beq_iff_eq.mpr c9
        have c9b1 : (((rd_T63 l1 x15_1).f0) != 1) = false := bne_eq_false_iff_eq.mpr c9
        clear c9
        by_cases c10 : 0 ≤ ((rd_T63 l1 x15_1).f1)
        ·
         rw [if_pos c10] at H
         have c10b0 : decide (0 ≤ ((rd_T63 l1 x15_1).f1)) = true := decide_eq_true c10
         clear c10
         by_cases c11 : ((rd_T63 l1 x15_1).f1) < (l0.length : Int)
         ·
          rw [if_pos c11] at H
          have c11b0 : decide (((rd_T63 l1 x15_1).f1) < (l0.length : Int)) = true := decide_eq_true c11
          clear c11
          by_cases c12 : (rd l0 ((rd_T63 l1 x15_1).f1)) = ((rd_T63 l1 x15_1).f2)
          ·
           rw [if_pos c12] at H
           have c12b0 : ((rd l0 ((rd_T63 l1 x15_1).f1)) == ((rd_T63 l1 x15_1).f2)) = true := beq_iff_eq.mpr c12
           have c12b1 : ((rd l0 ((rd_T63 l1 x15_1).f1)) != ((rd_T63 l1 x15_1).f2)) = false := bne_eq_false_iff_eq.mpr c12
           clear c12
           have H' := Aside0.mk H
           clear H
           have p1130 : 0 ≤ (x15_1 : Int) := of_decide_eq_true (by first | (with_reducible assumption) | assumption)
           have q1130 : x15_1 < (l1.length : Int) := of_decide_eq_true (by first | (with_reducible assumption) | assumption)
           obtain ⟨ad1130, e1130, hx1130_0, hx1130_1, hx1130_2⟩ := at_T63 HR1.out x15_1 p1130 q1130
           cases e1130
           replace hx1130_0 := (HB.out.cell (World.block_lt_of_cell? w _ hx1130_0)).trans hx1130_0
           replace hx1130_1 := (HB.out.cell (World.block_lt_of_cell? w _ hx1130_1)).trans hx1130_1
           replace hx1130_2 := (HB.out.cell (World.block_lt_of_cell? w _ hx1130_2)).trans hx1130_2
           replace p1130 := eq_true p1130
           replace q1130 := eq_true q1130
           go_wp2_with (first | ((with_reducible refine gate_dst (N := 7) rfl ?_); refine box_event ?hg (N := 7) ?hd (cs := #[.int .i64 0, .int .i64 0, .int .i64 0]) (t := 63) ?hr ?_; (case hd => rfl); (case hg => rfl); (case hr => first | (go_simp; done) | (go_simp; rfl)); intro gb1131 hg w13 hbox hb; have n0_ := Aside0.mk (below_step (by repeat (first | (with_reducible first | exact HB.out | apply below_alloc | apply pw_below_drewN | apply below_drew1) | exact HB.out)) hb); have n1_ := Aside0.mk (hbox); have n2_ := Aside0.mk ((by rw [hg]; exact (below_size (by repeat (first | (with_reducible first | exact HB.out | apply below_alloc | apply pw_below_drewN | apply below_drew1) | exact HB.out))) : w.heap.size ≤ gb1131)); have n3_ := Aside0.mk ((by rw [hg]; exact (below_size (by repeat (first | (with_reducible first | exact HB.out | apply below_alloc | apply pw_below_drewN | apply below_drew1) | exact HB.out))) : w.heap.size ≤ gb1131)); clear HB; have HB := n0_; have BK1131 := n1_; have GW1131 := n2_; have GE1131 := n3_; clear n0_ n1_ n2_ n3_; clear hb hbox hg; have hcz14_0 : w13.cell? ⟨gb1131, 0, none⟩ = some (.int .i64 0) := (blk_cell BK1131.out 0).trans rfl; have hcz14_1 : w13.cell? ⟨gb1131, 1, none⟩ = some (.int .i64 0) := (blk_cell BK1131.out 1).trans rfl; have hcz14_2 : w13.cell? ⟨gb1131, 2, none⟩ = some (.int .i64 0) := (blk_cell BK1131.out 2).trans rfl; have hfz14_0 := blk_frozen BK1131.out 0; have hfz14_1 := blk_frozen BK1131.out 1; have hfz14_2 := blk_frozen BK1131.out 2; have p1132 : 0 ≤ (((rd_T63 l1 x15_1).f1) : Int) := of_decide_eq_true (by first | (with_reducible assumption) | assumption); have q1132 : ((rd_T63 l1 x15_1).f1) < (l0.length : Int) := of_decide_eq_true (by first | (with_reducible assumption) | assumption); obtain ⟨ad1132, e1132, hx1132_0⟩ := Kd.at_int HR0.out ((rd_T63 l1 x15_1).f1) p1132 q1132; cases e1132; have hn1132_0 : ad1132.block ≠ gb1131 := Nat.ne_of_lt (Nat.lt_of_lt_of_le (by have := World.block_lt_of_cell? _ _ hx1132_0; first | rwa [add_block] at this | exact this) GW1131.out); have hn1132_1 : ad1132.block ≠ gb1131 := Nat.ne_of_lt (Nat.lt_of_lt_of_le (by have := World.block_lt_of_cell? _ _ hx1132_0; first | rwa [add_block] at this | exact this) GW1131.out); have hn1132_2 : ad1132.block ≠ gb1131 := Nat.ne_of_lt (Nat.lt_of_lt_of_le (by have := World.block_lt_of_cell? _ _ hx1132_0; first | rwa [add_block] at this | exact this) GW1131.out); replace hx1132_0 := (HB.out.cell (World.block_lt_of_cell? w _ hx1132_0)).trans hx1132_0; replace hx1132_0 := (cell_far (p := ⟨gb1131, 0, none⟩) (by first | (rw [add_block]; exact hn1132_0) | (show (Addr.add _ _).block ≠ _; rw [add_block]; exact hn1132_0) | exact hn1132_0) (.int .i64 ((rd_T63 l1 x15_1).f0))).trans hx1132_0; replace hx1132_0 := (cell_far (p := ⟨gb1131, 1, none⟩) (by first | (rw [add_block]; exact hn1132_1) | (show (Addr.add _ _).block ≠ _; rw [add_block]; exact hn1132_1) | exact hn1132_1) (.int .i64 ((rd_T63 l1 x15_1).f1))).trans hx1132_0; replace hx1132_0 := (cell_far (p := ⟨gb1131, 2, none⟩) (by first | (rw [add_block]; exact hn1132_2) | (show (Addr.add _ _).block ≠ _; rw [add_block]; exact hn1132_2) | exact hn1132_2) (.int .i64 ((rd_T63 l1 x15_1).f2))).trans hx1132_0; (try have hy1132_0 := fun (n_ : Nat) => (show (((((w13.drewN n_).setCell ⟨gb1131, 0, none⟩ (.int .i64 ((rd_T63 l1 x15_1).f0))).setCell ⟨gb1131, 1, none⟩ (.int .i64 ((rd_T63 l1 x15_1).f1))).setCell ⟨gb1131, 2, none⟩ (.int .i64 ((rd_T63 l1 x15_1).f2)))).cell? _ = some _ from hx1132_0)); clear hn1132_0; clear hn1132_1; clear hn1132_2; replace p1132 := eq_true p1132; replace q1132 := eq_true q1132))
           repeat (go_quiet (first | ((with_reducible refine gate_dst (N := 7) rfl ?_); refine box_event ?hg (N := 7) ?hd (cs := #[.int .i64 0, .int .i64 0, .int .i64 0]) (t := 63) ?hr ?_; (case hd => rfl); (case hg => rfl); (case hr => first | (go_simp; done) | (go_simp; rfl)); intro gb1131 hg w13 hbox hb; have n0_ := Aside0.mk (below_step (by repeat (first | (with_reducible first | exact HB.out | apply below_alloc | apply pw_below_drewN | apply below_drew1) | exact HB.out)) hb); have n1_ := Aside0.mk (hbox); have n2_ := Aside0.mk ((by rw [hg]; exact (below_size (by repeat (first | (with_reducible first | exact HB.out | apply below_alloc | apply pw_below_drewN | apply below_drew1) | exact HB.out))) : w.heap.size ≤ gb1131)); have n3_ := Aside0.mk ((by rw [hg]; exact (below_size (by repeat (first | (with_reducible first | exact HB.out | apply below_alloc | apply pw_below_drewN | apply below_drew1) | exact HB.out))) : w.heap.size ≤ gb1131)); clear HB; have HB := n0_; have BK1131 := n1_; have GW1131 := n2_; have GE1131 := n3_; clear n0_ n1_ n2_ n3_; clear hb hbox hg; have hcz14_0 : w13.cell? ⟨gb1131, 0, none⟩ = some (.int .i64 0) := (blk_cell BK1131.out 0).trans rfl; have hcz14_1 : w13.cell? ⟨gb1131, 1, none⟩ = some (.int .i64 0) := (blk_cell BK1131.out 1).trans rfl; have hcz14_2 : w13.cell? ⟨gb1131, 2, none⟩ = some (.int .i64 0) := (blk_cell BK1131.out 2).trans rfl; have hfz14_0 := blk_frozen BK1131.out 0; have hfz14_1 := blk_frozen BK1131.out 1; have hfz14_2 := blk_frozen BK1131.out 2; have p1132 : 0 ≤ (((rd_T63 l1 x15_1).f1) : Int) := of_decide_eq_true (by first | (with_reducible assumption) | assumption); have q1132 : ((rd_T63 l1 x15_1).f1) < (l0.length : Int) := of_decide_eq_true (by first | (with_reducible assumption) | assumption); obtain ⟨ad1132, e1132, hx1132_0⟩ := Kd.at_int HR0.out ((rd_T63 l1 x15_1).f1) p1132 q1132; cases e1132; have hn1132_0 : ad1132.block ≠ gb1131 := Nat.ne_of_lt (Nat.lt_of_lt_of_le (by have := World.block_lt_of_cell? _ _ hx1132_0; first | rwa [add_block] at this | exact this) GW1131.out); have hn1132_1 : ad1132.block ≠ gb1131 := Nat.ne_of_lt (Nat.lt_of_lt_of_le (by have := World.block_lt_of_cell? _ _ hx1132_0; first | rwa [add_block] at this | exact this) GW1131.out); have hn1132_2 : ad1132.block ≠ gb1131 := Nat.ne_of_lt (Nat.lt_of_lt_of_le (by have := World.block_lt_of_cell? _ _ hx1132_0; first | rwa [add_block] at this | exact this) GW1131.out); replace hx1132_0 := (HB.out.cell (World.block_lt_of_cell? w _ hx1132_0)).trans hx1132_0; replace hx1132_0 := (cell_far (p := ⟨gb1131, 0, none⟩) (by first | (rw [add_block]; exact hn1132_0) | (show (Addr.add _ _).block ≠ _; rw [add_block]; exact hn1132_0) | exact hn1132_0) (.int .i64 ((rd_T63 l1 x15_1).f0))).trans hx1132_0; replace hx1132_0 := (cell_far (p := ⟨gb1131, 1, none⟩) (by first | (rw [add_block]; exact hn1132_1) | (show (Addr.add _ _).block ≠ _; rw [add_block]; exact hn1132_1) | exact hn1132_1) (.int .i64 ((rd_T63 l1 x15_1).f1))).trans hx1132_0; replace hx1132_0 := (cell_far (p := ⟨gb1131, 2, none⟩) (by first | (rw [add_block]; exact hn1132_2) | (show (Addr.add _ _).block ≠ _; rw [add_block]; exact hn1132_2) | exact hn1132_2) (.int .i64 ((rd_T63 l1 x15_1).f2))).trans hx1132_0; (try have hy1132_0 := fun (n_ : Nat) => (show (((((w13.drewN n_).setCell ⟨gb1131, 0, none⟩ (.int .i64 ((rd_T63 l1 x15_1).f0))).setCell ⟨gb1131, 1, none⟩ (.int .i64 ((rd_T63 l1 x15_1).f1))).setCell ⟨gb1131, 2, none⟩ (.int .i64 ((rd_T63 l1 x15_1).f2)))).cell? _ = some _ from hx1132_0)); clear hn1132_0; clear hn1132_1; clear hn1132_2; replace p1132 := eq_true p1132; replace q1132 := eq_true q1132)); try go_wp2_with (first | ((with_reducible refine gate_dst (N := 7) rfl ?_); refine box_event ?hg (N := 7) ?hd (cs := #[.int .i64 0, .int .i64 0, .int .i64 0]) (t := 63) ?hr ?_; (case hd => rfl); (case hg => rfl); (case hr => first | (go_simp; done) | (go_simp; rfl)); intro gb1131 hg w13 hbox hb; have n0_ := Aside0.mk (below_step (by repeat (first | (with_reducible first | exact HB.out | apply below_alloc | apply pw_below_drewN | apply below_drew1) | exact HB.out)) hb); have n1_ := Aside0.mk (hbox); have n2_ := Aside0.mk ((by rw [hg]; exact (below_size (by repeat (first | (with_reducible first | exact HB.out | apply below_alloc | apply pw_below_drewN | apply below_drew1) | exact HB.out))) : w.heap.size ≤ gb1131)); have n3_ := Aside0.mk ((by rw [hg]; exact (below_size (by repeat (first | (with_reducible first | exact HB.out | apply below_alloc | apply pw_below_drewN | apply below_drew1) | exact HB.out))) : w.heap.size ≤ gb1131)); clear HB; have HB := n0_; have BK1131 := n1_; have GW1131 := n2_; have GE1131 := n3_; clear n0_ n1_ n2_ n3_; clear hb hbox hg; have hcz14_0 : w13.cell? ⟨gb1131, 0, none⟩ = some (.int .i64 0) := (blk_cell BK1131.out 0).trans rfl; have hcz14_1 : w13.cell? ⟨gb1131, 1, none⟩ = some (.int .i64 0) := (blk_cell BK1131.out 1).trans rfl; have hcz14_2 : w13.cell? ⟨gb1131, 2, none⟩ = some (.int .i64 0) := (blk_cell BK1131.out 2).trans rfl; have hfz14_0 := blk_frozen BK1131.out 0; have hfz14_1 := blk_frozen BK1131.out 1; have hfz14_2 := blk_frozen BK1131.out 2; have p1132 : 0 ≤ (((rd_T63 l1 x15_1).f1) : Int) := of_decide_eq_true (by first | (with_reducible assumption) | assumption); have q1132 : ((rd_T63 l1 x15_1).f1) < (l0.length : Int) := of_decide_eq_true (by first | (with_reducible assumption) | assumption); obtain ⟨ad1132, e1132, hx1132_0⟩ := Kd.at_int HR0.out ((rd_T63 l1 x15_1).f1) p1132 q1132; cases e1132; have hn1132_0 : ad1132.block ≠ gb1131 := Nat.ne_of_lt (Nat.lt_of_lt_of_le (by have := World.block_lt_of_cell? _ _ hx1132_0; first | rwa [add_block] at this | exact this) GW1131.out); have hn1132_1 : ad1132.block ≠ gb1131 := Nat.ne_of_lt (Nat.lt_of_lt_of_le (by have := World.block_lt_of_cell? _ _ hx1132_0; first | rwa [add_block] at this | exact this) GW1131.out); have hn1132_2 : ad1132.block ≠ gb1131 := Nat.ne_of_lt (Nat.lt_of_lt_of_le (by have := World.block_lt_of_cell? _ _ hx1132_0; first | rwa [add_block] at this | exact this) GW1131.out); replace hx1132_0 := (HB.out.cell (World.block_lt_of_cell? w _ hx1132_0)).trans hx1132_0; replace hx1132_0 := (cell_far (p := ⟨gb1131, 0, none⟩) (by first | (rw [add_block]; exact hn1132_0) | (show (Addr.add _ _).block ≠ _; rw [add_block]; exact hn1132_0) | exact hn1132_0) (.int .i64 ((rd_T63 l1 x15_1).f0))).trans hx1132_0; replace hx1132_0 := (cell_far (p := ⟨gb1131, 1, none⟩) (by first | (rw [add_block]; exact hn1132_1) | (show (Addr.add _ _).block ≠ _; rw [add_block]; exact hn1132_1) | exact hn1132_1) (.int .i64 ((rd_T63 l1 x15_1).f1))).trans hx1132_0; replace hx1132_0 := (cell_far (p := ⟨gb1131, 2, none⟩) (by first | (rw [add_block]; exact hn1132_2) | (show (Addr.add _ _).block ≠ _; rw [add_block]; exact hn1132_2) | exact hn1132_2) (.int .i64 ((rd_T63 l1 x15_1).f2))).trans hx1132_0; (try have hy1132_0 := fun (n_ : Nat) => (show (((((w13.drewN n_).setCell ⟨gb1131, 0, none⟩ (.int .i64 ((rd_T63 l1 x15_1).f0))).setCell ⟨gb1131, 1, none⟩ (.int .i64 ((rd_T63 l1 x15_1).f1))).setCell ⟨gb1131, 2, none⟩ (.int .i64 ((rd_T63 l1 x15_1).f2)))).cell? _ = some _ from hx1132_0)); clear hn1132_0; clear hn1132_1; clear hn1132_2; replace p1132 := eq_true p1132; replace q1132 := eq_true q1132)))
           go_roundg k1
           case measure => have := HK1.out; omega
           case rel => exact ⟨(x5_1), (wrap64 (x15_1 + 1)), (by first | rfl | (simp; done) | (simp [*]; done)), (by first | rfl | (simp; done) | (simp [*]; done)), H', ⟨by have := HK1.out; omega⟩, ⟨by repeat (first | (with_reducible first | exact HB.out | apply below_alloc | apply pw_below_drewN | apply below_drew1 | refine below_set ?_ GE1131.out) | exact HB.out)⟩⟩
          ·
           rw [if_neg c12] at H
           have c12b0 : ((rd l0 ((rd_T63 l1 x15_1).f1)) == ((rd_T63 l1 x15_1).f2)) = false := beq_eq_false_iff_ne.mpr c12
           have c12b1 : ((rd l0 ((rd_T63 l1 x15_1).f1)) != ((rd_T63 l1 x15_1).f2)) = true := bne_iff_ne.mpr c12
           have H' := Aside0.mk H
           clear H
           have p1130 : 0 ≤ (x15_1 : Int) := of_decide_eq_true (by first | (with_reducible assumption) | assumption)
           have q1130 : x15_1 < (l1.length : Int) := of_decide_eq_true (by first | (with_reducible assumption) | assumption)
           obtain ⟨ad1130, e1130, hx1130_0, hx1130_1, hx1130_2⟩ := at_T63 HR1.out x15_1 p1130 q1130
           cases e1130
           replace hx1130_0 := (HB.out.cell (World.block_lt_of_cell? w _ hx1130_0)).trans hx1130_0
           replace hx1130_1 := (HB.out.cell (World.block_lt_of_cell? w _ hx1130_1)).trans hx1130_1
           replace hx1130_2 := (HB.out.cell (World.block_lt_of_cell? w _ hx1130_2)).trans hx1130_2
           replace p1130 := eq_true p1130
           replace q1130 := eq_true q1130
           go_wp2_with (first | ((with_reducible refine gate_dst (N := 7) rfl ?_); refine box_event ?hg (N := 7) ?hd (cs := #[.int .i64 0, .int .i64 0, .int .i64 0]) (t := 63) ?hr ?_; (case hd => rfl); (case hg => rfl); (case hr => first | (go_simp; done) | (go_simp; rfl)); intro gb1131 hg w15 hbox hb; have n0_ := Aside0.mk (below_step (by repeat (first | (with_reducible first | exact HB.out | apply below_alloc | apply pw_below_drewN | apply below_drew1) | exact HB.out)) hb); have n1_ := Aside0.mk (hbox); have n2_ := Aside0.mk ((by rw [hg]; exact (below_size (by repeat (first | (with_reducible first | exact HB.out | apply below_alloc | apply pw_below_drewN | apply below_drew1) | exact HB.out))) : w.heap.size ≤ gb1131)); have n3_ := Aside0.mk ((by rw [hg]; exact (below_size (by repeat (first | (with_reducible first | exact HB.out | apply below_alloc | apply pw_below_drewN | apply below_drew1) | exact HB.out))) : w.heap.size ≤ gb1131)); clear HB; have HB := n0_; have BK1131 := n1_; have GW1131 := n2_; have GE1131 := n3_; clear n0_ n1_ n2_ n3_; clear hb hbox hg; have hcz16_0 : w15.cell? ⟨gb1131, 0, none⟩ = some (.int .i64 0) := (blk_cell BK1131.out 0).trans rfl; have hcz16_1 : w15.cell? ⟨gb1131, 1, none⟩ = some (.int .i64 0) := (blk_cell BK1131.out 1).trans rfl; have hcz16_2 : w15.cell? ⟨gb1131, 2, none⟩ = some (.int .i64 0) := (blk_cell BK1131.out 2).trans rfl; have hfz16_0 := blk_frozen BK1131.out 0; have hfz16_1 := blk_frozen BK1131.out 1; have hfz16_2 := blk_frozen BK1131.out 2; have p1132 : 0 ≤ (((rd_T63 l1 x15_1).f1) : Int) := of_decide_eq_true (by first | (with_reducible assumption) | assumption); have q1132 : ((rd_T63 l1 x15_1).f1) < (l0.length : Int) := of_decide_eq_true (by first | (with_reducible assumption) | assumption); obtain ⟨ad1132, e1132, hx1132_0⟩ := Kd.at_int HR0.out ((rd_T63 l1 x15_1).f1) p1132 q1132; cases e1132; have hn1132_0 : ad1132.block ≠ gb1131 := Nat.ne_of_lt (Nat.lt_of_lt_of_le (by have := World.block_lt_of_cell? _ _ hx1132_0; first | rwa [add_block] at this | exact this) GW1131.out); have hn1132_1 : ad1132.block ≠ gb1131 := Nat.ne_of_lt (Nat.lt_of_lt_of_le (by have := World.block_lt_of_cell? _ _ hx1132_0; first | rwa [add_block] at this | exact this) GW1131.out); have hn1132_2 : ad1132.block ≠ gb1131 := Nat.ne_of_lt (Nat.lt_of_lt_of_le (by have := World.block_lt_of_cell? _ _ hx1132_0; first | rwa [add_block] at this | exact this) GW1131.out); replace hx1132_0 := (HB.out.cell (World.block_lt_of_cell? w _ hx1132_0)).trans hx1132_0; replace hx1132_0 := (cell_far (p := ⟨gb1131, 0, none⟩) (by first | (rw [add_block]; exact hn1132_0) | (show (Addr.add _ _).block ≠ _; rw [add_block]; exact hn1132_0) | exact hn1132_0) (.int .i64 ((rd_T63 l1 x15_1).f0))).trans hx1132_0; replace hx1132_0 := (cell_far (p := ⟨gb1131, 1, none⟩) (by first | (rw [add_block]; exact hn1132_1) | (show (Addr.add _ _).block ≠ _; rw [add_block]; exact hn1132_1) | exact hn1132_1) (.int .i64 ((rd_T63 l1 x15_1).f1))).trans hx1132_0; replace hx1132_0 := (cell_far (p := ⟨gb1131, 2, none⟩) (by first | (rw [add_block]; exact hn1132_2) | (show (Addr.add _ _).block ≠ _; rw [add_block]; exact hn1132_2) | exact hn1132_2) (.int .i64 ((rd_T63 l1 x15_1).f2))).trans hx1132_0; (try have hy1132_0 := fun (n_ : Nat) => (show (((((w15.drewN n_).setCell ⟨gb1131, 0, none⟩ (.int .i64 ((rd_T63 l1 x15_1).f0))).setCell ⟨gb1131, 1, none⟩ (.int .i64 ((rd_T63 l1 x15_1).f1))).setCell ⟨gb1131, 2, none⟩ (.int .i64 ((rd_T63 l1 x15_1).f2)))).cell? _ = some _ from hx1132_0)); clear hn1132_0; clear hn1132_1; clear hn1132_2; replace p1132 := eq_true p1132; replace q1132 := eq_true q1132))
           repeat (go_quiet (first | ((with_reducible refine gate_dst (N := 7) rfl ?_); refine box_event ?hg (N := 7) ?hd (cs := #[.int .i64 0, .int .i64 0, .int .i64 0]) (t := 63) ?hr ?_; (case hd => rfl); (case hg => rfl); (case hr => first | (go_simp; done) | (go_simp; rfl)); intro gb1131 hg w15 hbox hb; have n0_ := Aside0.mk (below_step (by repeat (first | (with_reducible first | exact HB.out | apply below_alloc | apply pw_below_drewN | apply below_drew1) | exact HB.out)) hb); have n1_ := Aside0.mk (hbox); have n2_ := Aside0.mk ((by rw [hg]; exact (below_size (by repeat (first | (with_reducible first | exact HB.out | apply below_alloc | apply pw_below_drewN | apply below_drew1) | exact HB.out))) : w.heap.size ≤ gb1131)); have n3_ := Aside0.mk ((by rw [hg]; exact (below_size (by repeat (first | (with_reducible first | exact HB.out | apply below_alloc | apply pw_below_drewN | apply below_drew1) | exact HB.out))) : w.heap.size ≤ gb1131)); clear HB; have HB := n0_; have BK1131 := n1_; have GW1131 := n2_; have GE1131 := n3_; clear n0_ n1_ n2_ n3_; clear hb hbox hg; have hcz16_0 : w15.cell? ⟨gb1131, 0, none⟩ = some (.int .i64 0) := (blk_cell BK1131.out 0).trans rfl; have hcz16_1 : w15.cell? ⟨gb1131, 1, none⟩ = some (.int .i64 0) := (blk_cell BK1131.out 1).trans rfl; have hcz16_2 : w15.cell? ⟨gb1131, 2, none⟩ = some (.int .i64 0) := (blk_cell BK1131.out 2).trans rfl; have hfz16_0 := blk_frozen BK1131.out 0; have hfz16_1 := blk_frozen BK1131.out 1; have hfz16_2 := blk_frozen BK1131.out 2; have p1132 : 0 ≤ (((rd_T63 l1 x15_1).f1) : Int) := of_decide_eq_true (by first | (with_reducible assumption) | assumption); have q1132 : ((rd_T63 l1 x15_1).f1) < (l0.length : Int) := of_decide_eq_true (by first | (with_reducible assumption) | assumption); obtain ⟨ad1132, e1132, hx1132_0⟩ := Kd.at_int HR0.out ((rd_T63 l1 x15_1).f1) p1132 q1132; cases e1132; have hn1132_0 : ad1132.block ≠ gb1131 := Nat.ne_of_lt (Nat.lt_of_lt_of_le (by have := World.block_lt_of_cell? _ _ hx1132_0; first | rwa [add_block] at this | exact this) GW1131.out); have hn1132_1 : ad1132.block ≠ gb1131 := Nat.ne_of_lt (Nat.lt_of_lt_of_le (by have := World.block_lt_of_cell? _ _ hx1132_0; first | rwa [add_block] at this | exact this) GW1131.out); have hn1132_2 : ad1132.block ≠ gb1131 := Nat.ne_of_lt (Nat.lt_of_lt_of_le (by have := World.block_lt_of_cell? _ _ hx1132_0; first | rwa [add_block] at this | exact this) GW1131.out); replace hx1132_0 := (HB.out.cell (World.block_lt_of_cell? w _ hx1132_0)).trans hx1132_0; replace hx1132_0 := (cell_far (p := ⟨gb1131, 0, none⟩) (by first | (rw [add_block]; exact hn1132_0) | (show (Addr.add _ _).block ≠ _; rw [add_block]; exact hn1132_0) | exact hn1132_0) (.int .i64 ((rd_T63 l1 x15_1).f0))).trans hx1132_0; replace hx1132_0 := (cell_far (p := ⟨gb1131, 1, none⟩) (by first | (rw [add_block]; exact hn1132_1) | (show (Addr.add _ _).block ≠ _; rw [add_block]; exact hn1132_1) | exact hn1132_1) (.int .i64 ((rd_T63 l1 x15_1).f1))).trans hx1132_0; replace hx1132_0 := (cell_far (p := ⟨gb1131, 2, none⟩) (by first | (rw [add_block]; exact hn1132_2) | (show (Addr.add _ _).block ≠ _; rw [add_block]; exact hn1132_2) | exact hn1132_2) (.int .i64 ((rd_T63 l1 x15_1).f2))).trans hx1132_0; (try have hy1132_0 := fun (n_ : Nat) => (show (((((w15.drewN n_).setCell ⟨gb1131, 0, none⟩ (.int .i64 ((rd_T63 l1 x15_1).f0))).setCell ⟨gb1131, 1, none⟩ (.int .i64 ((rd_T63 l1 x15_1).f1))).setCell ⟨gb1131, 2, none⟩ (.int .i64 ((rd_T63 l1 x15_1).f2)))).cell? _ = some _ from hx1132_0)); clear hn1132_0; clear hn1132_1; clear hn1132_2; replace p1132 := eq_true p1132; replace q1132 := eq_true q1132)); try go_wp2_with (first | ((with_reducible refine gate_dst (N := 7) rfl ?_); refine box_event ?hg (N := 7) ?hd (cs := #[.int .i64 0, .int .i64 0, .int .i64 0]) (t := 63) ?hr ?_; (case hd => rfl); (case hg => rfl); (case hr => first | (go_simp; done) | (go_simp; rfl)); intro gb1131 hg w15 hbox hb; have n0_ := Aside0.mk (below_step (by repeat (first | (with_reducible first | exact HB.out | apply below_alloc | apply pw_below_drewN | apply below_drew1) | exact HB.out)) hb); have n1_ := Aside0.mk (hbox); have n2_ := Aside0.mk ((by rw [hg]; exact (below_size (by repeat (first | (with_reducible first | exact HB.out | apply below_alloc | apply pw_below_drewN | apply below_drew1) | exact HB.out))) : w.heap.size ≤ gb1131)); have n3_ := Aside0.mk ((by rw [hg]; exact (below_size (by repeat (first | (with_reducible first | exact HB.out | apply below_alloc | apply pw_below_drewN | apply below_drew1) | exact HB.out))) : w.heap.size ≤ gb1131)); clear HB; have HB := n0_; have BK1131 := n1_; have GW1131 := n2_; have GE1131 := n3_; clear n0_ n1_ n2_ n3_; clear hb hbox hg; have hcz16_0 : w15.cell? ⟨gb1131, 0, none⟩ = some (.int .i64 0) := (blk_cell BK1131.out 0).trans rfl; have hcz16_1 : w15.cell? ⟨gb1131, 1, none⟩ = some (.int .i64 0) := (blk_cell BK1131.out 1).trans rfl; have hcz16_2 : w15.cell? ⟨gb1131, 2, none⟩ = some (.int .i64 0) := (blk_cell BK1131.out 2).trans rfl; have hfz16_0 := blk_frozen BK1131.out 0; have hfz16_1 := blk_frozen BK1131.out 1; have hfz16_2 := blk_frozen BK1131.out 2; have p1132 : 0 ≤ (((rd_T63 l1 x15_1).f1) : Int) := of_decide_eq_true (by first | (with_reducible assumption) | assumption); have q1132 : ((rd_T63 l1 x15_1).f1) < (l0.length : Int) := of_decide_eq_true (by first | (with_reducible assumption) | assumption); obtain ⟨ad1132, e1132, hx1132_0⟩ := Kd.at_int HR0.out ((rd_T63 l1 x15_1).f1) p1132 q1132; cases e1132; have hn1132_0 : ad1132.block ≠ gb1131 := Nat.ne_of_lt (Nat.lt_of_lt_of_le (by have := World.block_lt_of_cell? _ _ hx1132_0; first | rwa [add_block] at this | exact this) GW1131.out); have hn1132_1 : ad1132.block ≠ gb1131 := Nat.ne_of_lt (Nat.lt_of_lt_of_le (by have := World.block_lt_of_cell? _ _ hx1132_0; first | rwa [add_block] at this | exact this) GW1131.out); have hn1132_2 : ad1132.block ≠ gb1131 := Nat.ne_of_lt (Nat.lt_of_lt_of_le (by have := World.block_lt_of_cell? _ _ hx1132_0; first | rwa [add_block] at this | exact this) GW1131.out); replace hx1132_0 := (HB.out.cell (World.block_lt_of_cell? w _ hx1132_0)).trans hx1132_0; replace hx1132_0 := (cell_far (p := ⟨gb1131, 0, none⟩) (by first | (rw [add_block]; exact hn1132_0) | (show (Addr.add _ _).block ≠ _; rw [add_block]; exact hn1132_0) | exact hn1132_0) (.int .i64 ((rd_T63 l1 x15_1).f0))).trans hx1132_0; replace hx1132_0 := (cell_far (p := ⟨gb1131, 1, none⟩) (by first | (rw [add_block]; exact hn1132_1) | (show (Addr.add _ _).block ≠ _; rw [add_block]; exact hn1132_1) | exact hn1132_1) (.int .i64 ((rd_T63 l1 x15_1).f1))).trans hx1132_0; replace hx1132_0 := (cell_far (p := ⟨gb1131, 2, none⟩) (by first | (rw [add_block]; exact hn1132_2) | (show (Addr.add _ _).block ≠ _; rw [add_block]; exact hn1132_2) | exact hn1132_2) (.int .i64 ((rd_T63 l1 x15_1).f2))).trans hx1132_0; (try have hy1132_0 := fun (n_ : Nat) => (show (((((w15.drewN n_).setCell ⟨gb1131, 0, none⟩ (.int .i64 ((rd_T63 l1 x15_1).f0))).setCell ⟨gb1131, 1, none⟩ (.int .i64 ((rd_T63 l1 x15_1).f1))).setCell ⟨gb1131, 2, none⟩ (.int .i64 ((rd_T63 l1 x15_1).f2)))).cell? _ = some _ from hx1132_0)); clear hn1132_0; clear hn1132_1; clear hn1132_2; replace p1132 := eq_true p1132; replace q1132 := eq_true q1132)))
           go_roundg k1
           case measure => have := HK1.out; omega
           case rel => exact ⟨(wrap64 (x5_1 + 1)), (wrap64 (x15_1 + 1)), (by first | rfl | (simp; done) | (simp [*]; done)), (by first | rfl | (simp; done) | (simp [*]; done)), H', ⟨by have := HK1.out; omega⟩, ⟨by repeat (first | (with_reducible first | exact HB.out | apply below_alloc | apply pw_below_drewN | apply below_drew1 | refine below_set ?_ GE1131.out) | exact HB.out)⟩⟩
         ·
          rw [if_neg c11] at H
          exact absurd H (by simp)
        ·
         rw [if_neg c10] at H
         exact absurd H (by simp)
       ·
        rw [if_neg c9] at H
        have c9b0 : (((rd_T63 l1 x15_1).f0) == 1) = false := beq_eq_false_iff_ne.mpr c9
        have c9b1 : (((rd_T63 l1 x15_1).f0) != 1) = true := bne_iff_ne.mpr c9
        have H' := Aside0.mk H
        clear H
        have p1130 : 0 ≤ (x15_1 : Int) := of_decide_eq_true (by first | (with_reducible assumption) | assumption)
        have q1130 : x15_1 < (l1.length : Int) := of_decide_eq_true (by first | (with_reducible assumption) | assumption)
        obtain ⟨ad1130, e1130, hx1130_0, hx1130_1, hx1130_2⟩ := at_T63 HR1.out x15_1 p1130 q1130
        cases e1130
        replace hx1130_0 := (HB.out.cell (World.block_lt_of_cell? w _ hx1130_0)).trans hx1130_0
        replace hx1130_1 := (HB.out.cell (World.block_lt_of_cell? w _ hx1130_1)).trans hx1130_1
        replace hx1130_2 := (HB.out.cell (World.block_lt_of_cell? w _ hx1130_2)).trans hx1130_2
        replace p1130 := eq_true p1130
        replace q1130 := eq_true q1130
        go_wp2_with (first | ((with_reducible refine gate_dst (N := 7) rfl ?_); refine box_event ?hg (N := 7) ?hd (cs := #[.int .i64 0, .int .i64 0, .int .i64 0]) (t := 63) ?hr ?_; (case hd => rfl); (case hg => rfl); (case hr => first | (go_simp; done) | (go_simp; rfl)); intro gb1131 hg w17 hbox hb; have n0_ := Aside0.mk (below_step (by repeat (first | (with_reducible first | exact HB.out | apply below_alloc | apply pw_below_drewN | apply below_drew1) | exact HB.out)) hb); have n1_ := Aside0.mk (hbox); have n2_ := Aside0.mk ((by rw [hg]; exact (below_size (by repeat (first | (with_reducible first | exact HB.out | apply below_alloc | apply pw_below_drewN | apply below_drew1) | exact HB.out))) : w.heap.size ≤ gb1131)); have n3_ := Aside0.mk ((by rw [hg]; exact (below_size (by repeat (first | (with_reducible first | exact HB.out | apply below_alloc | apply pw_below_drewN | apply below_drew1) | exact HB.out))) : w.heap.size ≤ gb1131)); clear HB; have HB := n0_; have BK1131 := n1_; have GW1131 := n2_; have GE1131 := n3_; clear n0_ n1_ n2_ n3_; clear hb hbox hg; have hcz18_0 : w17.cell? ⟨gb1131, 0, none⟩ = some (.int .i64 0) := (blk_cell BK1131.out 0).trans rfl; have hcz18_1 : w17.cell? ⟨gb1131, 1, none⟩ = some (.int .i64 0) := (blk_cell BK1131.out 1).trans rfl; have hcz18_2 : w17.cell? ⟨gb1131, 2, none⟩ = some (.int .i64 0) := (blk_cell BK1131.out 2).trans rfl; have hfz18_0 := blk_frozen BK1131.out 0; have hfz18_1 := blk_frozen BK1131.out 1; have hfz18_2 := blk_frozen BK1131.out 2))
        repeat (go_quiet (first | ((with_reducible refine gate_dst (N := 7) rfl ?_); refine box_event ?hg (N := 7) ?hd (cs := #[.int .i64 0, .int .i64 0, .int .i64 0]) (t := 63) ?hr ?_; (case hd => rfl); (case hg => rfl); (case hr => first | (go_simp; done) | (go_simp; rfl)); intro gb1131 hg w17 hbox hb; have n0_ := Aside0.mk (below_step (by repeat (first | (with_reducible first | exact HB.out | apply below_alloc | apply pw_below_drewN | apply below_drew1) | exact HB.out)) hb); have n1_ := Aside0.mk (hbox); have n2_ := Aside0.mk ((by rw [hg]; exact (below_size (by repeat (first | (with_reducible first | exact HB.out | apply below_alloc | apply pw_below_drewN | apply below_drew1) | exact HB.out))) : w.heap.size ≤ gb1131)); have n3_ := Aside0.mk ((by rw [hg]; exact (below_size (by repeat (first | (with_reducible first | exact HB.out | apply below_alloc | apply pw_below_drewN | apply below_drew1) | exact HB.out))) : w.heap.size ≤ gb1131)); clear HB; have HB := n0_; have BK1131 := n1_; have GW1131 := n2_; have GE1131 := n3_; clear n0_ n1_ n2_ n3_; clear hb hbox hg; have hcz18_0 : w17.cell? ⟨gb1131, 0, none⟩ = some (.int .i64 0) := (blk_cell BK1131.out 0).trans rfl; have hcz18_1 : w17.cell? ⟨gb1131, 1, none⟩ = some (.int .i64 0) := (blk_cell BK1131.out 1).trans rfl; have hcz18_2 : w17.cell? ⟨gb1131, 2, none⟩ = some (.int .i64 0) := (blk_cell BK1131.out 2).trans rfl; have hfz18_0 := blk_frozen BK1131.out 0; have hfz18_1 := blk_frozen BK1131.out 1; have hfz18_2 := blk_frozen BK1131.out 2)); try go_wp2_with (first | ((with_reducible refine gate_dst (N := 7) rfl ?_); refine box_event ?hg (N := 7) ?hd (cs := #[.int .i64 0, .int .i64 0, .int .i64 0]) (t := 63) ?hr ?_; (case hd => rfl); (case hg => rfl); (case hr => first | (go_simp; done) | (go_simp; rfl)); intro gb1131 hg w17 hbox hb; have n0_ := Aside0.mk (below_step (by repeat (first | (with_reducible first | exact HB.out | apply below_alloc | apply pw_below_drewN | apply below_drew1) | exact HB.out)) hb); have n1_ := Aside0.mk (hbox); have n2_ := Aside0.mk ((by rw [hg]; exact (below_size (by repeat (first | (with_reducible first | exact HB.out | apply below_alloc | apply pw_below_drewN | apply below_drew1) | exact HB.out))) : w.heap.size ≤ gb1131)); have n3_ := Aside0.mk ((by rw [hg]; exact (below_size (by repeat (first | (with_reducible first | exact HB.out | apply below_alloc | apply pw_below_drewN | apply below_drew1) | exact HB.out))) : w.heap.size ≤ gb1131)); clear HB; have HB := n0_; have BK1131 := n1_; have GW1131 := n2_; have GE1131 := n3_; clear n0_ n1_ n2_ n3_; clear hb hbox hg; have hcz18_0 : w17.cell? ⟨gb1131, 0, none⟩ = some (.int .i64 0) := (blk_cell BK1131.out 0).trans rfl; have hcz18_1 : w17.cell? ⟨gb1131, 1, none⟩ = some (.int .i64 0) := (blk_cell BK1131.out 1).trans rfl; have hcz18_2 : w17.cell? ⟨gb1131, 2, none⟩ = some (.int .i64 0) := (blk_cell BK1131.out 2).trans rfl; have hfz18_0 := blk_frozen BK1131.out 0; have hfz18_1 := blk_frozen BK1131.out 1; have hfz18_2 := blk_frozen BK1131.out 2)))
        go_roundg k1
        case measure => have := HK1.out; omega
        case rel => exact ⟨(wrap64 (x5_1 + 1)), (wrap64 (x15_1 + 1)), (by first | rfl | (simp; done) | (simp [*]; done)), (by first | rfl | (simp; done) | (simp [*]; done)), H', ⟨by have := HK1.out; omega⟩, ⟨by repeat (first | (with_reducible first | exact HB.out | apply below_alloc | apply pw_below_drewN | apply below_drew1 | refine below_set ?_ GE1131.out) | exact HB.out)⟩⟩
      ·
       rw [if_neg c8] at H
       exact absurd H (by simp)
     ·
      rw [if_neg c7] at H
      exact absurd H (by simp)
    ·
     rw [if_neg c6] at H
     have c6b0 : decide (x15_1 < (l1.length : Int)) = false := decide_eq_false c6
     clear c6
     obtain rfl := Option.some.inj H
     go_wp2
     repeat (go_quiet (fail); try go_wp2)
     go_ret
     exact ⟨by first | rfl | (simp [errW_none, errW_some] <;> rfl) | (simp [*, errW_none, errW_some] <;> rfl), by repeat (first | (with_reducible first | exact HB.out | apply below_alloc | apply pw_below_drewN | apply below_drew1) | exact HB.out)⟩
 ·
  replace c4 := Bool.eq_false_iff.mpr c4
  subst c4
  rw [if_neg (show ¬ (false = true) by decide)] at H
  obtain rfl := Option.some.inj H
  go_enter Try.func33, Try.ntmps33
  go_wp2_with (first | (go_at_call 106; (with_reducible refine (impl_AreSlips.calls k _ _ l1 (l0.length : Int) false _ ?side1 ?side2 A3.out).mono ?_); (case side1 => repeat (first | exact HR1.out | (with_reducible refine Kd.C_alloc ?_ _) | (with_reducible refine Kd.C_drewN ?_ _) | (with_reducible refine Kd.C_drew ?_))); (case side2 => exact HC1.out); rintro e w19 ⟨rfl, hb⟩; have n0_ := Aside0.mk (below_step (by repeat (first | (with_reducible first | exact HB.out | apply below_alloc | apply pw_below_drewN | apply below_drew1) | exact HB.out)) hb); clear HB; have HB := n0_; clear n0_; (try clear hb); (try clear hb2); (try clear hk); (try clear hi)))
  repeat (go_quiet (first | (go_at_call 106; (with_reducible refine (impl_AreSlips.calls k _ _ l1 (l0.length : Int) false _ ?side1 ?side2 A3.out).mono ?_); (case side1 => repeat (first | exact HR1.out | (with_reducible refine Kd.C_alloc ?_ _) | (with_reducible refine Kd.C_drewN ?_ _) | (with_reducible refine Kd.C_drew ?_))); (case side2 => exact HC1.out); rintro e w19 ⟨rfl, hb⟩; have n0_ := Aside0.mk (below_step (by repeat (first | (with_reducible first | exact HB.out | apply below_alloc | apply pw_below_drewN | apply below_drew1) | exact HB.out)) hb); clear HB; have HB := n0_; clear n0_; (try clear hb); (try clear hb2); (try clear hk); (try clear hi))); try go_wp2_with (first | (go_at_call 106; (with_reducible refine (impl_AreSlips.calls k _ _ l1 (l0.length : Int) false _ ?side1 ?side2 A3.out).mono ?_); (case side1 => repeat (first | exact HR1.out | (with_reducible refine Kd.C_alloc ?_ _) | (with_reducible refine Kd.C_drewN ?_ _) | (with_reducible refine Kd.C_drew ?_))); (case side2 => exact HC1.out); rintro e w19 ⟨rfl, hb⟩; have n0_ := Aside0.mk (below_step (by repeat (first | (with_reducible first | exact HB.out | apply below_alloc | apply pw_below_drewN | apply below_drew1) | exact HB.out)) hb); clear HB; have HB := n0_; clear n0_; (try clear hb); (try clear hb2); (try clear hk); (try clear hi))))
  go_ret
  exact ⟨by first | rfl | (simp [errW_none, errW_some] <;> rfl) | (simp [*, errW_none, errW_some] <;> rfl), by repeat (first | (with_reducible first | exact HB.out | apply below_alloc | apply pw_below_drewN | apply below_drew1) | exact HB.out)⟩
end Go.Proofs.Ytbhlmeghbfmgiaa.F

namespace Go.Proofs.Ytbhlmeghbfmgiaa.F
open Go.RowKit Go.Proofs.YtbhlmeghbfmgiaaW.PrintWords Go.Proofs.YtbhlmeghbfmgiaaW.PrintLast Go.Proofs.YtbhlmeghbfmgiaaW.PrintMore
attribute [local go_sem] max2_int min2_int max_two min_two max_three min_three max_four min_four
set_option linter.unusedVariables false
set_option linter.unusedSimpArgs false
def impl_KindName.f (a0 : Int) : Option (ByteArray) := (impl_InRange.f a0 1 3).bind fun t1133 => (if t1133 = true then ((some (([(⟨#[119, 114, 111, 110, 103]⟩ : ByteArray), (⟨#[109, 105, 115, 115, 105, 110, 103]⟩ : ByteArray), (⟨#[101, 120, 116, 114, 97]⟩ : ByteArray)] : List ByteArray) : List ByteArray)).bind fun y1134 => (if 0 ≤ (wrap64 (a0 - 1)) then (if (wrap64 (a0 - 1)) < (y1134.length : Int) then (some (rdOf ByteArray.empty y1134 (wrap64 (a0 - 1)))) else (none)) else (none))) else (some (⟨#[]⟩ : ByteArray)))
set_option maxHeartbeats 8000000 in
set_option maxRecDepth 100000 in
theorem impl_KindName.calls (a0 : Int) (r : ByteArray) (w : World) (h : impl_KindName.f a0 = some r) :
  Calls Try.prog 34 #[.int .i64 a0] w fun e w' => e = .returned (.string r) ∧ Below w.heap.size w w' := by
 have HB := Aside0.mk (Below.refl w.heap.size w)
 have H : ((impl_InRange.f a0 1 3).bind fun t1133 => (if t1133 = true then ((some (([(⟨#[119, 114, 111, 110, 103]⟩ : ByteArray), (⟨#[109, 105, 115, 115, 105, 110, 103]⟩ : ByteArray), (⟨#[101, 120, 116, 114, 97]⟩ : ByteArray)] : List ByteArray) : List ByteArray)).bind fun y1134 => (if 0 ≤ (wrap64 (a0 - 1)) then (if (wrap64 (a0 - 1)) < (y1134.length : Int) then (some (rdOf ByteArray.empty y1134 (wrap64 (a0 - 1)))) else (none)) else (none))) else (some (⟨#[]⟩ : ByteArray)))) = some r := h
 clear h
 replace H := Option.bind_eq_some_iff.mp H
 obtain ⟨t1133, A20, H⟩ := H
 try dsimp only at H
 have A2 := Aside0.mk A20
 clear A20
 by_cases c3 : t1133 = true
 ·
  subst c3
  rw [if_pos rfl] at H
  obtain ⟨y1134, hy1134⟩ : ∃ y_ : List ByteArray, y_ = (([(⟨#[119, 114, 111, 110, 103]⟩ : ByteArray), (⟨#[109, 105, 115, 115, 105, 110, 103]⟩ : ByteArray), (⟨#[101, 120, 116, 114, 97]⟩ : ByteArray)] : List ByteArray)) := ⟨_, rfl⟩
  replace H : (if 0 ≤ (wrap64 (a0 - 1)) then (if (wrap64 (a0 - 1)) < (y1134.length : Int) then (some (rdOf ByteArray.empty y1134 (wrap64 (a0 - 1)))) else (none)) else (none)) = some r := by first | (rw [hy1134]; with_reducible exact H) | (have H2_ := (Option.bind_some _ _).symm.trans H; rw [hy1134]; with_reducible exact H2_) | (have H2_ := (Option.bind_some _ _).symm.trans H; with_reducible exact H2_) | with_reducible exact H | (rw [hy1134]; exact H) | exact H
  have Ny1134 := Aside0.mk hy1134
  clear hy1134
  obtain ⟨ji4, hji4⟩ : ∃ j_ : Int, (wrap64 (a0 - 1)) = j_ := ⟨_, rfl⟩
  replace H : (if 0 ≤ (ji4) then (if (ji4) < (y1134.length : Int) then (some (rdOf ByteArray.empty y1134 (ji4))) else (none)) else (none)) = some r := by first | (rw [hji4] at H; exact H) | (simp only [hji4] at H ⊢; exact H)
  (try rw [hji4] at A2)
  have hji4w : (IntKind.i64.wrap (a0 - 1)) = ji4 := (i64_w _).trans hji4
  by_cases c5 : 0 ≤ (ji4)
  ·
   rw [if_pos c5] at H
   have c5b0 : decide (0 ≤ (ji4)) = true := decide_eq_true c5
   clear c5
   by_cases c6 : (ji4) < (y1134.length : Int)
   ·
    rw [if_pos c6] at H
    have c6b0 : decide ((ji4) < (y1134.length : Int)) = true := decide_eq_true c6
    clear c6
    obtain rfl := Option.some.inj H
    go_enter Try.func34, Try.ntmps34
    go_wp2_with (first | ((with_reducible refine gate_callee (f := 86) rfl ?_); refine goesL_ (some 4) rfl rfl Try.func86 (by kernel_rfl) rfl #[.int .i64 a0, .int .i64 1, .int .i64 3] rfl (by (try simp only [List.map_toArray, List.map_cons, List.map_nil]); first | done | rfl | (simp only [List.length_drop, List.length_take]; rfl)) ?_; (with_reducible refine (impl_InRange.calls a0 1 3 true _ A2.out).mono ?_); rintro e w' ⟨rfl, ⟨nd, rfl⟩⟩; refine ⟨_, rfl, ?_⟩) | ((with_reducible refine gate_dst (N := 6) rfl ?_); refine Kd.R_lit Kd.string _ 9 ?hg (N := 6) ?hd (xs := ([(⟨#[119, 114, 111, 110, 103]⟩ : ByteArray), (⟨#[109, 105, 115, 115, 105, 110, 103]⟩ : ByteArray), (⟨#[101, 120, 116, 114, 97]⟩ : ByteArray)] : List ByteArray)) (inner := [.string (⟨#[119, 114, 111, 110, 103]⟩ : ByteArray), .string (⟨#[109, 105, 115, 115, 105, 110, 103]⟩ : ByteArray), .string (⟨#[101, 120, 116, 114, 97]⟩ : ByteArray)]) (ok := fun _ => True) (okp := fun _ => True) ?hr ?hp (fun _ hk => hk) trivial (Below.refl _ _) (Nat.le_refl _) (by simp) ?_; (case hd => rfl); (case hg => rfl); (case hr => first | (go_simp; done) | (go_simp; rfl)); (case hp => exact (Reps.one (show Kd.M Kd.string _ _ _ (⟨#[119, 114, 111, 110, 103]⟩ : ByteArray) [.string (⟨#[119, 114, 111, 110, 103]⟩ : ByteArray)] from rfl) (Reps.one (show Kd.M Kd.string _ _ _ (⟨#[109, 105, 115, 115, 105, 110, 103]⟩ : ByteArray) [.string (⟨#[109, 105, 115, 115, 105, 110, 103]⟩ : ByteArray)] from rfl) (Reps.one (show Kd.M Kd.string _ _ _ (⟨#[101, 120, 116, 114, 97]⟩ : ByteArray) [.string (⟨#[101, 120, 116, 114, 97]⟩ : ByteArray)] from rfl) (Reps.none _ _))))); intro v1135 w7 ho8 hb hg_ hnew_; clear hg_ hnew_; (first | rw [← Ny1134.out] at ho8 | (simp only [Int.reduceToNat] at ho8; rw [← Ny1134.out] at ho8)); have n0_ := Aside0.mk (Kd.R_lower ho8 (below_size (by repeat (first | (with_reducible first | exact HB.out | apply below_alloc | apply pw_below_drewN | apply below_drew1) | exact HB.out)))); have n1_ := Aside0.mk (below_step (by repeat (first | (with_reducible first | exact HB.out | apply below_alloc | apply pw_below_drewN | apply below_drew1) | exact HB.out)) hb); clear HB; have HO1136 := n0_; have HB := n1_; clear n0_ n1_; clear hb ho8; obtain ⟨Ao9, co9, eo9⟩ := Kd.R_slice HO1136.out; subst eo9; have p1137 : 0 ≤ ((ji4) : Int) := of_decide_eq_true (by first | (with_reducible assumption) | assumption); have q1137 : (ji4) < (y1134.length : Int) := of_decide_eq_true (by first | (with_reducible assumption) | assumption); obtain ⟨ad1137, e1137, hx1137_0⟩ := Kd.at_string (Kd.R_reads' HO1136.out).2.2 (ji4) p1137 q1137; cases e1137; replace p1137 := eq_true p1137; replace q1137 := eq_true q1137))
    go_ret
    exact ⟨by first | rfl | (simp [errW_none, errW_some] <;> rfl) | (simp only [← hji4]; first | rfl | (simp [errW_none, errW_some] <;> rfl)) | (simp [*, errW_none, errW_some] <;> rfl), by repeat (first | (with_reducible first | exact HB.out | apply below_alloc | apply pw_below_drewN | apply below_drew1) | exact HB.out)⟩
   ·
    rw [if_neg c6] at H
    exact absurd H (by simp)
  ·
   rw [if_neg c5] at H
   exact absurd H (by simp)
 ·
  replace c3 := Bool.eq_false_iff.mpr c3
  subst c3
  rw [if_neg (show ¬ (false = true) by decide)] at H
  obtain rfl := Option.some.inj H
  go_enter Try.func34, Try.ntmps34
  go_wp2_with (first | ((with_reducible refine gate_callee (f := 86) rfl ?_); refine goesL_ (some 4) rfl rfl Try.func86 (by kernel_rfl) rfl #[.int .i64 a0, .int .i64 1, .int .i64 3] rfl (by (try simp only [List.map_toArray, List.map_cons, List.map_nil]); first | done | rfl | (simp only [List.length_drop, List.length_take]; rfl)) ?_; (with_reducible refine (impl_InRange.calls a0 1 3 false _ A2.out).mono ?_); rintro e w' ⟨rfl, ⟨nd, rfl⟩⟩; refine ⟨_, rfl, ?_⟩))
  go_ret
  exact ⟨by first | rfl | (simp [errW_none, errW_some] <;> rfl) | (simp [*, errW_none, errW_some] <;> rfl), by repeat (first | (with_reducible first | exact HB.out | apply below_alloc | apply pw_below_drewN | apply below_drew1) | exact HB.out)⟩
end Go.Proofs.Ytbhlmeghbfmgiaa.F

namespace Go.Proofs.Ytbhlmeghbfmgiaa.F
open Go.RowKit Go.Proofs.YtbhlmeghbfmgiaaW.PrintWords Go.Proofs.YtbhlmeghbfmgiaaW.PrintLast Go.Proofs.YtbhlmeghbfmgiaaW.PrintMore
attribute [local go_sem] max2_int min2_int max_two min_two max_three min_three max_four min_four
set_option linter.unusedVariables false
set_option linter.unusedSimpArgs false
def laws_FnSlips.l0 : Nat → List Int → List (S63) → List Int → Int → Int → Option (Bool)
 | 0, _, _, _, _, _ => none
 | k + 1, x3, x4, x5, x7, x8 => if x8 < (x4.length : Int) then (if 0 ≤ x8 then ((impl_KindName.f ((rd_T63 x4 x8).f0)).bind fun t1154 => (if t1154.toList = ([] : List UInt8) then (some false) else (if ((rd_T63 x4 x8).f0) = 2 then (if ((rd_T63 x4 x8).f0) = 3 then (laws_FnSlips.l0 k x3 x4 x5 (wrap64 ((wrap64 (x7 - 1)) + 1)) (wrap64 (x8 + 1))) else (laws_FnSlips.l0 k x3 x4 x5 (wrap64 (x7 - 1)) (wrap64 (x8 + 1)))) else (if ((rd_T63 x4 x8).f0) = 3 then (laws_FnSlips.l0 k x3 x4 x5 (wrap64 (x7 + 1)) (wrap64 (x8 + 1))) else (laws_FnSlips.l0 k x3 x4 x5 x7 (wrap64 (x8 + 1))))))) else (none)) else (if (x5.length : Int) = x7 then ((impl_CountReal.f k x3 x4).bind fun t1151 => (if t1151 ≤ (x4.length : Int) then (if (x4.length : Int) > 0 then (some true) else ((laws_sameInts.f k x5 x3).bind fun t1152 => (some t1152))) else (some false))) else (some false))
def laws_FnSlips.f (k : Nat) (l0 : List Int) : Option (Bool) := (laws_big.f l0).bind fun t1138 => (if t1138 = true then (some true) else ((spec_DrawErrBy.f k l0).bind fun bt1139 => ((impl_ErrBy.f k bt1139.1 bt1139.2).bind fun bt1145 => (if bt1145.2 = true then (laws_FnSlips.l0 k bt1139.1 bt1139.2 bt1145.1 (bt1139.1.length : Int) 0) else ((laws_sameInts.f k bt1145.1 bt1139.1).bind fun t1149 => (if t1149 = true then ((impl_CountReal.f k bt1139.1 bt1139.2).bind fun t1150 => (some (t1150 == 0))) else (some false)))))))
set_option maxHeartbeats 8000000 in
set_option maxRecDepth 100000 in
theorem laws_FnSlips.calls (k : Nat) (A0 : Option Addr) (c0 : Nat) (l0 : List Int) (r : Bool) (w : World) (hr0 : Kd.C (Kd.int .u8) w A0 l0.length l0) (hc0 : l0.length ≤ c0) (h : laws_FnSlips.f k l0 = some r) :
  Calls Try.prog 5 #[.slice A0 l0.length c0] w fun e w' => e = .returned (.bool r) ∧ Below w.heap.size w w' := by
 have HR0 := Aside0.mk hr0
 have HC0 := Aside0.mk hc0
 clear hr0 hc0
 have HB := Aside0.mk (Below.refl w.heap.size w)
 have H : ((laws_big.f l0).bind fun t1138 => (if t1138 = true then (some true) else ((spec_DrawErrBy.f k l0).bind fun bt1139 => ((impl_ErrBy.f k bt1139.1 bt1139.2).bind fun bt1145 => (if bt1145.2 = true then (laws_FnSlips.l0 k bt1139.1 bt1139.2 bt1145.1 (bt1139.1.length : Int) 0) else ((laws_sameInts.f k bt1145.1 bt1139.1).bind fun t1149 => (if t1149 = true then ((impl_CountReal.f k bt1139.1 bt1139.2).bind fun t1150 => (some (t1150 == 0))) else (some false)))))))) = some r := h
 clear h
 replace H := Option.bind_eq_some_iff.mp H
 obtain ⟨t1138, A20, H⟩ := H
 try dsimp only at H
 have A2 := Aside0.mk A20
 clear A20
 by_cases c3 : t1138 = true
 ·
  subst c3
  rw [if_pos rfl] at H
  obtain rfl := Option.some.inj H
  go_enter Try.func5, Try.ntmps5
  go_wp2_with (first | ((with_reducible refine gate_callee (f := 10) rfl ?_); refine goesL_ (some 10) rfl rfl Try.func10 (by kernel_rfl) rfl #[.slice A0 l0.length c0] rfl (by (try simp only [List.map_toArray, List.map_cons, List.map_nil]); first | done | rfl | (simp only [List.length_drop, List.length_take]; rfl)) ?_; (with_reducible refine (laws_big.calls _ _ l0 true _ ?side1 ?side2 A2.out).mono ?_); (case side1 => repeat (first | exact HR0.out | (with_reducible refine Kd.C_alloc ?_ _) | (with_reducible refine Kd.C_drewN ?_ _) | (with_reducible refine Kd.C_drew ?_))); (case side2 => exact HC0.out); rintro e w' ⟨rfl, ⟨nd, rfl⟩⟩; refine ⟨_, rfl, ?_⟩))
  go_ret
  exact ⟨by first | rfl | (simp [errW_none, errW_some] <;> rfl) | (simp [*, errW_none, errW_some] <;> rfl), by repeat (first | (with_reducible first | exact HB.out | apply below_alloc | apply pw_below_drewN | apply below_drew1) | exact HB.out)⟩
 ·
  replace c3 := Bool.eq_false_iff.mpr c3
  subst c3
  rw [if_neg (show ¬ (false = true) by decide)] at H
  replace H := Option.bind_eq_some_iff.mp H
  obtain ⟨⟨t1139, t1140⟩, A40, H⟩ := H
  try dsimp only at H
  have A4 := Aside0.mk A40
  clear A40
  replace H := Option.bind_eq_some_iff.mp H
  obtain ⟨⟨t1145, t1146⟩, A50, H⟩ := H
  try dsimp only at H
  have A5 := Aside0.mk A50
  clear A50
  by_cases c6 : t1146 = true
  ·
   subst c6
   rw [if_pos rfl] at H
   have H' := Aside0.mk H
   clear H
   go_enter Try.func5, Try.ntmps5
   go_wp2_with (first | ((with_reducible refine gate_callee (f := 10) rfl ?_); refine goesL_ (some 10) rfl rfl Try.func10 (by kernel_rfl) rfl #[.slice A0 l0.length c0] rfl (by (try simp only [List.map_toArray, List.map_cons, List.map_nil]); first | done | rfl | (simp only [List.length_drop, List.length_take]; rfl)) ?_; (with_reducible refine (laws_big.calls _ _ l0 false _ ?side1 ?side2 A2.out).mono ?_); (case side1 => repeat (first | exact HR0.out | (with_reducible refine Kd.C_alloc ?_ _) | (with_reducible refine Kd.C_drewN ?_ _) | (with_reducible refine Kd.C_drew ?_))); (case side2 => exact HC0.out); rintro e w' ⟨rfl, ⟨nd, rfl⟩⟩; refine ⟨_, rfl, ?_⟩) | ((with_reducible refine gate_callee (f := 31) rfl ?_); refine goesL_ (some 13) rfl rfl Try.func31 (by kernel_rfl) rfl #[.slice A0 l0.length c0] rfl (by (try simp only [List.map_toArray, List.map_cons, List.map_nil]); first | done | rfl | (simp only [List.length_drop, List.length_take]; rfl)) ?_; (with_reducible refine (spec_DrawErrBy.calls k _ _ l0 t1139 t1140 _ ?side1 ?side2 A4.out).mono ?_); (case side1 => repeat (first | exact HR0.out | (with_reducible refine Kd.C_alloc ?_ _) | (with_reducible refine Kd.C_drewN ?_ _) | (with_reducible refine Kd.C_drew ?_))); (case side2 => exact HC0.out); rintro e w7 ⟨v1141, v1143, rfl, ho0, ho1, hb⟩; refine ⟨_, rfl, ?_⟩; have n0_ := Aside0.mk (Kd.R_lower ho0 (below_size (by repeat (first | (with_reducible first | exact HB.out | apply below_alloc | apply pw_below_drewN | apply below_drew1) | exact HB.out)))); have n1_ := Aside0.mk (Kd.R_lower ho1 (below_size (by repeat (first | (with_reducible first | exact HB.out | apply below_alloc | apply pw_below_drewN | apply below_drew1) | exact HB.out)))); have n2_ := Aside0.mk (below_step (by repeat (first | (with_reducible first | exact HB.out | apply below_alloc | apply pw_below_drewN | apply below_drew1) | exact HB.out)) hb); clear HB; have HO1142 := n0_; have HO1144 := n1_; have HB := n2_; clear n0_ n1_ n2_; (try clear hb); (try clear hb2); (try clear hk); (try clear hi); (try clear ho0); (try clear ho1); obtain ⟨Ao8, co8, eo8⟩ := Kd.R_slice HO1142.out; subst eo8; obtain ⟨Ao9, co9, eo9⟩ := Kd.R_slice HO1144.out; subst eo9) | ((with_reducible refine gate_callee (f := 32) rfl ?_); refine goesL_ (some 19) rfl rfl Try.func32 (by kernel_rfl) rfl #[.slice Ao8 t1139.length co8, .slice Ao9 t1140.length co9] rfl (by (try simp only [List.map_toArray, List.map_cons, List.map_nil]); first | done | rfl | (simp only [List.length_drop, List.length_take]; rfl)) ?_; (with_reducible refine (impl_ErrBy.calls k _ _ t1139 _ _ t1140 t1145 true _ ?side1 ?side2 ?side3 ?side4 A5.out).mono ?_); (case side1 => repeat (first | exact (Kd.R_reads' HO1142.out).2.2 | (with_reducible refine Kd.C_alloc ?_ _) | (with_reducible refine Kd.C_drewN ?_ _) | (with_reducible refine Kd.C_drew ?_))); (case side2 => exact (Kd.R_reads' HO1142.out).2.1); (case side3 => repeat (first | exact (Kd.R_reads' HO1144.out).2.2 | (with_reducible refine Kd.C_alloc ?_ _) | (with_reducible refine Kd.C_drewN ?_ _) | (with_reducible refine Kd.C_drew ?_))); (case side4 => exact (Kd.R_reads' HO1144.out).2.1); rintro e w10 ⟨v1147, rfl, ho0, hb⟩; refine ⟨_, rfl, ?_⟩; have n0_ := Aside0.mk (Kd.R_elder' (by (with_reducible repeat (first | apply Kd.R_alloc | apply Kd.R_drewN | apply Kd.R_drew)); exact HO1142.out) (Kd.R_base ho0) hb); have n1_ := Aside0.mk (Kd.R_below (by (with_reducible repeat (first | apply Kd.R_alloc | apply Kd.R_drewN | apply Kd.R_drew)); exact HO1144.out) hb); have n2_ := Aside0.mk (Kd.R_lower (Kd.R_new' ho0 (Kd.R_lt (by (with_reducible repeat (first | apply Kd.R_alloc | apply Kd.R_drewN | apply Kd.R_drew)); exact HO1142.out))) (below_size (by repeat (first | (with_reducible first | exact HB.out | apply below_alloc | apply pw_below_drewN | apply below_drew1) | exact HB.out)))); have n3_ := Aside0.mk (below_step (by repeat (first | (with_reducible first | exact HB.out | apply below_alloc | apply pw_below_drewN | apply below_drew1) | exact HB.out)) hb); clear HO1142; clear HO1144; clear HB; have HO1142 := n0_; have HO1144 := n1_; have HO1148 := n2_; have HB := n3_; clear n0_ n1_ n2_ n3_; (try clear hb); (try clear hb2); (try clear hk); (try clear hi); (try clear ho0)))
   go_loopg [7, 8] k (fun kq v7 v8 w' => ∃ (x7_1 : Int) (x8_1 : Int), v7 = .int .i64 x7_1 ∧ v8 = .int .i64 x8_1 ∧ Aside0 (laws_FnSlips.l0 kq t1139 t1140 t1145 x7_1 x8_1 = some r) ∧ Aside0 (kq ≤ k) ∧ Aside0 (Kd.R (Kd.int .i64) 3 w' w.heap.size (fun k_ => some k_ ≠ (v1147 : Value).ownBlock) (.slice Ao8 t1139.length co8) t1139) ∧ Aside0 (Kd.R k63 63 w' w.heap.size (fun _ => True) (.slice Ao9 t1140.length co9) t1140) ∧ Aside0 (Kd.R (Kd.int .i64) 3 w' w.heap.size (fun k_ => some k_ ≠ ((.slice Ao8 t1139.length co8) : Value).ownBlock) v1147 t1145) ∧ Aside0 (Below w.heap.size w w'))
   case atStart => exact ⟨((t1139.length : Int)), (0), (by first | rfl | (simp; done) | (simp [*]; done)), (by first | rfl | (simp; done) | (simp [*]; done)), H', ⟨Nat.le_refl _⟩, ⟨by (with_reducible repeat (first | apply Kd.R_alloc | apply Kd.R_drewN | apply Kd.R_drew)); exact Kd.R_mono HO1142.out (fun _ hk => hk.2)⟩, ⟨by (with_reducible repeat (first | apply Kd.R_alloc | apply Kd.R_drewN | apply Kd.R_drew)); exact HO1144.out⟩, ⟨by (with_reducible repeat (first | apply Kd.R_alloc | apply Kd.R_drewN | apply Kd.R_drew)); exact Kd.R_mono HO1148.out (fun _ hk => hk.2)⟩, ⟨by repeat (first | (with_reducible first | exact HB.out | apply below_alloc | apply pw_below_drewN | apply below_drew1) | exact HB.out)⟩⟩
   case round =>
    clear H'
    try clear c1
    try clear p2
    try clear c3
    try clear c5
    try clear c6
    try clear c10
    obtain ⟨x7_1, x8_1, rfl, rfl, HA, HK1, HO_3, HO_4, HO_5, HB⟩ := hrel
    cases gk with
    | zero => exact absurd HA.out (by simp [laws_FnSlips.l0])
    | succ k1 =>
     have H := HA.out
     clear HA
     simp only [laws_FnSlips.l0] at H
     by_cases c11 : x8_1 < (t1140.length : Int)
     ·
      rw [if_pos c11] at H
      have c11b0 : decide (x8_1 < (t1140.length : Int)) = true := decide_eq_true c11
      clear c11
      by_cases c12 : 0 ≤ x8_1
      ·
       rw [if_pos c12] at H
       have c12b0 : decide (0 ≤ x8_1) = true := decide_eq_true c12
       clear c12
       replace H := Option.bind_eq_some_iff.mp H
       obtain ⟨t1154, A130, H⟩ := H
       try dsimp only at H
       have A13 := Aside0.mk A130
       clear A130
       by_cases c14 : t1154.toList = ([] : List UInt8)
       ·
        rw [if_pos c14] at H
        have c14b0 : (t1154.toList == ([] : List UInt8)) = true := beq_iff_eq.mpr c14
        have c14b1 : (t1154.toList != ([] : List UInt8)) = false := bne_eq_false_iff_eq.mpr c14
        clear c14
        obtain rfl := Option.some.inj H
        have p1153 : 0 ≤ (x8_1 : Int) := of_decide_eq_true (by first | (with_reducible assumption) | assumption)
        have q1153 : x8_1 < (t1140.length : Int) := of_decide_eq_true (by first | (with_reducible assumption) | assumption)
        obtain ⟨ad1153, e1153, hx1153_0, hx1153_1, hx1153_2⟩ := at_T63 (Kd.R_reads' HO_4.out).2.2 x8_1 p1153 q1153
        cases e1153
        replace p1153 := eq_true p1153
        replace q1153 := eq_true q1153
        go_wp2_with (first | ((with_reducible refine gate_callee (f := 34) rfl ?_); refine goesL_ (some 46) rfl rfl Try.func34 (by kernel_rfl) rfl #[.int .i64 ((rd_T63 t1140 x8_1).f0)] rfl (by (try simp only [List.map_toArray, List.map_cons, List.map_nil]); first | done | rfl | (simp only [List.length_drop, List.length_take]; rfl)) ?_; (with_reducible refine (impl_KindName.calls ((rd_T63 t1140 x8_1).f0) t1154 _ A13.out).mono ?_); rintro e w15 ⟨rfl, hb⟩; refine ⟨_, rfl, ?_⟩; have n0_ := Aside0.mk (Kd.R_below (by (with_reducible repeat (first | apply Kd.R_alloc | apply Kd.R_drewN | apply Kd.R_drew)); exact HO_3.out) hb); have n1_ := Aside0.mk (Kd.R_below (by (with_reducible repeat (first | apply Kd.R_alloc | apply Kd.R_drewN | apply Kd.R_drew)); exact HO_4.out) hb); have n2_ := Aside0.mk (Kd.R_below (by (with_reducible repeat (first | apply Kd.R_alloc | apply Kd.R_drewN | apply Kd.R_drew)); exact HO_5.out) hb); have n3_ := Aside0.mk (below_step (by repeat (first | (with_reducible first | exact HB.out | apply below_alloc | apply pw_below_drewN | apply below_drew1) | exact HB.out)) hb); clear HO_3; clear HO_4; clear HO_5; clear HB; have HO_3 := n0_; have HO_4 := n1_; have HO_5 := n2_; have HB := n3_; clear n0_ n1_ n2_ n3_; (try clear hb); (try clear hb2); (try clear hk); (try clear hi)))
        go_ret
        exact ⟨by first | rfl | (simp [errW_none, errW_some] <;> rfl) | (simp [*, errW_none, errW_some] <;> rfl), by repeat (first | (with_reducible first | exact HB.out | apply below_alloc | apply pw_below_drewN | apply below_drew1) | exact HB.out)⟩
       ·
        rw [if_neg c14] at H
        have c14b0 : (t1154.toList == ([] : List UInt8)) = false := beq_eq_false_iff_ne.mpr c14
        have c14b1 : (t1154.toList != ([] : List UInt8)) = true := bne_iff_ne.mpr c14
        by_cases c16 : ((rd_T63 t1140 x8_1).f0) = 2
        ·
         rw [if_pos c16] at H
         have c16b0 : (((rd_T63 t1140 x8_1).f0) == 2) = true := beq_iff_eq.mpr c16
         have c16b1 : (((rd_T63 t1140 x8_1).f0) != 2) = false := bne_eq_false_iff_eq.mpr c16
         clear c16
         by_cases c17 : ((rd_T63 t1140 x8_1).f0) = 3
         ·
          rw [if_pos c17] at H
          have c17b0 : (((rd_T63 t1140 x8_1).f0) == 3) = true := beq_iff_eq.mpr c17
          have c17b1 : (((rd_T63 t1140 x8_1).f0) != 3) = false := bne_eq_false_iff_eq.mpr c17
          clear c17
          have H' := Aside0.mk H
          clear H
          have p1153 : 0 ≤ (x8_1 : Int) := of_decide_eq_true (by first | (with_reducible assumption) | assumption)
          have q1153 : x8_1 < (t1140.length : Int) := of_decide_eq_true (by first | (with_reducible assumption) | assumption)
          obtain ⟨ad1153, e1153, hx1153_0, hx1153_1, hx1153_2⟩ := at_T63 (Kd.R_reads' HO_4.out).2.2 x8_1 p1153 q1153
          cases e1153
          replace p1153 := eq_true p1153
          replace q1153 := eq_true q1153
          go_wp2_with (first | ((with_reducible refine gate_callee (f := 34) rfl ?_); refine goesL_ (some 46) rfl rfl Try.func34 (by kernel_rfl) rfl #[.int .i64 ((rd_T63 t1140 x8_1).f0)] rfl (by (try simp only [List.map_toArray, List.map_cons, List.map_nil]); first | done | rfl | (simp only [List.length_drop, List.length_take]; rfl)) ?_; (with_reducible refine (impl_KindName.calls ((rd_T63 t1140 x8_1).f0) t1154 _ A13.out).mono ?_); rintro e w18 ⟨rfl, hb⟩; refine ⟨_, rfl, ?_⟩; have n0_ := Aside0.mk (Kd.R_below (by (with_reducible repeat (first | apply Kd.R_alloc | apply Kd.R_drewN | apply Kd.R_drew)); exact HO_3.out) hb); have n1_ := Aside0.mk (Kd.R_below (by (with_reducible repeat (first | apply Kd.R_alloc | apply Kd.R_drewN | apply Kd.R_drew)); exact HO_4.out) hb); have n2_ := Aside0.mk (Kd.R_below (by (with_reducible repeat (first | apply Kd.R_alloc | apply Kd.R_drewN | apply Kd.R_drew)); exact HO_5.out) hb); have n3_ := Aside0.mk (below_step (by repeat (first | (with_reducible first | exact HB.out | apply below_alloc | apply pw_below_drewN | apply below_drew1) | exact HB.out)) hb); clear HO_3; clear HO_4; clear HO_5; clear HB; have HO_3 := n0_; have HO_4 := n1_; have HO_5 := n2_; have HB := n3_; clear n0_ n1_ n2_ n3_; (try clear hb); (try clear hb2); (try clear hk); (try clear hi); have p1155 : 0 ≤ (x8_1 : Int) := of_decide_eq_true (by first | (with_reducible assumption) | assumption); have q1155 : x8_1 < (t1140.length : Int) := of_decide_eq_true (by first | (with_reducible assumption) | assumption); obtain ⟨ad1155, e1155, hx1155_0, hx1155_1, hx1155_2⟩ := at_T63 (Kd.R_reads' HO_4.out).2.2 x8_1 p1155 q1155; obtain rfl : ad1153 = ad1155 := (by injection e1155); replace p1155 := eq_true p1155; replace q1155 := eq_true q1155; have p1156 : 0 ≤ (x8_1 : Int) := of_decide_eq_true (by first | (with_reducible assumption) | assumption); have q1156 : x8_1 < (t1140.length : Int) := of_decide_eq_true (by first | (with_reducible assumption) | assumption); obtain ⟨ad1156, e1156, hx1156_0, hx1156_1, hx1156_2⟩ := at_T63 (Kd.R_reads' HO_4.out).2.2 x8_1 p1156 q1156; obtain rfl : ad1153 = ad1156 := (by injection e1156); replace p1156 := eq_true p1156; replace q1156 := eq_true q1156))
          go_roundg k1
          case measure => have := HK1.out; omega
          case rel => exact ⟨(wrap64 ((wrap64 (x7_1 - 1)) + 1)), (wrap64 (x8_1 + 1)), (by first | rfl | (simp; done) | (simp [*]; done)), (by first | rfl | (simp; done) | (simp [*]; done)), H', ⟨by have := HK1.out; omega⟩, ⟨by (with_reducible repeat (first | apply Kd.R_alloc | apply Kd.R_drewN | apply Kd.R_drew)); exact HO_3.out⟩, ⟨by (with_reducible repeat (first | apply Kd.R_alloc | apply Kd.R_drewN | apply Kd.R_drew)); exact HO_4.out⟩, ⟨by (with_reducible repeat (first | apply Kd.R_alloc | apply Kd.R_drewN | apply Kd.R_drew)); exact HO_5.out⟩, ⟨by repeat (first | (with_reducible first | exact HB.out | apply below_alloc | apply pw_below_drewN | apply below_drew1) | exact HB.out)⟩⟩
         ·
          rw [if_neg c17] at H
          have c17b0 : (((rd_T63 t1140 x8_1).f0) == 3) = false := beq_eq_false_iff_ne.mpr c17
          have c17b1 : (((rd_T63 t1140 x8_1).f0) != 3) = true := bne_iff_ne.mpr c17
          have H' := Aside0.mk H
          clear H
          have p1153 : 0 ≤ (x8_1 : Int) := of_decide_eq_true (by first | (with_reducible assumption) | assumption)
          have q1153 : x8_1 < (t1140.length : Int) := of_decide_eq_true (by first | (with_reducible assumption) | assumption)
          obtain ⟨ad1153, e1153, hx1153_0, hx1153_1, hx1153_2⟩ := at_T63 (Kd.R_reads' HO_4.out).2.2 x8_1 p1153 q1153
          cases e1153
          replace p1153 := eq_true p1153
          replace q1153 := eq_true q1153
          go_wp2_with (first | ((with_reducible refine gate_callee (f := 34) rfl ?_); refine goesL_ (some 46) rfl rfl Try.func34 (by kernel_rfl) rfl #[.int .i64 ((rd_T63 t1140 x8_1).f0)] rfl (by (try simp only [List.map_toArray, List.map_cons, List.map_nil]); first | done | rfl | (simp only [List.length_drop, List.length_take]; rfl)) ?_; (with_reducible refine (impl_KindName.calls ((rd_T63 t1140 x8_1).f0) t1154 _ A13.out).mono ?_); rintro e w19 ⟨rfl, hb⟩; refine ⟨_, rfl, ?_⟩; have n0_ := Aside0.mk (Kd.R_below (by (with_reducible repeat (first | apply Kd.R_alloc | apply Kd.R_drewN | apply Kd.R_drew)); exact HO_3.out) hb); have n1_ := Aside0.mk (Kd.R_below (by (with_reducible repeat (first | apply Kd.R_alloc | apply Kd.R_drewN | apply Kd.R_drew)); exact HO_4.out) hb); have n2_ := Aside0.mk (Kd.R_below (by (with_reducible repeat (first | apply Kd.R_alloc | apply Kd.R_drewN | apply Kd.R_drew)); exact HO_5.out) hb); have n3_ := Aside0.mk (below_step (by repeat (first | (with_reducible first | exact HB.out | apply below_alloc | apply pw_below_drewN | apply below_drew1) | exact HB.out)) hb); clear HO_3; clear HO_4; clear HO_5; clear HB; have HO_3 := n0_; have HO_4 := n1_; have HO_5 := n2_; have HB := n3_; clear n0_ n1_ n2_ n3_; (try clear hb); (try clear hb2); (try clear hk); (try clear hi); have p1155 : 0 ≤ (x8_1 : Int) := of_decide_eq_true (by first | (with_reducible assumption) | assumption); have q1155 : x8_1 < (t1140.length : Int) := of_decide_eq_true (by first | (with_reducible assumption) | assumption); obtain ⟨ad1155, e1155, hx1155_0, hx1155_1, hx1155_2⟩ := at_T63 (Kd.R_reads' HO_4.out).2.2 x8_1 p1155 q1155; obtain rfl : ad1153 = ad1155 := (by injection e1155); replace p1155 := eq_true p1155; replace q1155 := eq_true q1155; have p1156 : 0 ≤ (x8_1 : Int) := of_decide_eq_true (by first | (with_reducible assumption) | assumption); have q1156 : x8_1 < (t1140.length : Int) := of_decide_eq_true (by first | (with_reducible assumption) | assumption); obtain ⟨ad1156, e1156, hx1156_0, hx1156_1, hx1156_2⟩ := at_T63 (Kd.R_reads' HO_4.out).2.2 x8_1 p1156 q1156; obtain rfl : ad1153 = ad1156 := (by injection e1156); replace p1156 := eq_true p1156; replace q1156 := eq_true q1156))
          go_roundg k1
          case measure => have := HK1.out; omega
          case rel => exact ⟨(wrap64 (x7_1 - 1)), (wrap64 (x8_1 + 1)), (by first | rfl | (simp; done) | (simp [*]; done)), (by first | rfl | (simp; done) | (simp [*]; done)), H', ⟨by have := HK1.out; omega⟩, ⟨by (with_reducible repeat (first | apply Kd.R_alloc | apply Kd.R_drewN | apply Kd.R_drew)); exact HO_3.out⟩, ⟨by (with_reducible repeat (first | apply Kd.R_alloc | apply Kd.R_drewN | apply Kd.R_drew)); exact HO_4.out⟩, ⟨by (with_reducible repeat (first | apply Kd.R_alloc | apply Kd.R_drewN | apply Kd.R_drew)); exact HO_5.out⟩, ⟨by repeat (first | (with_reducible first | exact HB.out | apply below_alloc | apply pw_below_drewN | apply below_drew1) | exact HB.out)⟩⟩
        ·
         rw [if_neg c16] at H
         have c16b0 : (((rd_T63 t1140 x8_1).f0) == 2) = false := beq_eq_false_iff_ne.mpr c16
         have c16b1 : (((rd_T63 t1140 x8_1).f0) != 2) = true := bne_iff_ne.mpr c16
         by_cases c20 : ((rd_T63 t1140 x8_1).f0) = 3
         ·
          rw [if_pos c20] at H
          have c20b0 : (((rd_T63 t1140 x8_1).f0) == 3) = true := beq_iff_eq.mpr c20
          have c20b1 : (((rd_T63 t1140 x8_1).f0) != 3) = false := bne_eq_false_iff_eq.mpr c20
          clear c20
          have H' := Aside0.mk H
          clear H
          have p1153 : 0 ≤ (x8_1 : Int) := of_decide_eq_true (by first | (with_reducible assumption) | assumption)
          have q1153 : x8_1 < (t1140.length : Int) := of_decide_eq_true (by first | (with_reducible assumption) | assumption)
          obtain ⟨ad1153, e1153, hx1153_0, hx1153_1, hx1153_2⟩ := at_T63 (Kd.R_reads' HO_4.out).2.2 x8_1 p1153 q1153
          cases e1153
          replace p1153 := eq_true p1153
          replace q1153 := eq_true q1153
          go_wp2_with (first | ((with_reducible refine gate_callee (f := 34) rfl ?_); refine goesL_ (some 46) rfl rfl Try.func34 (by kernel_rfl) rfl #[.int .i64 ((rd_T63 t1140 x8_1).f0)] rfl (by (try simp only [List.map_toArray, List.map_cons, List.map_nil]); first | done | rfl | (simp only [List.length_drop, List.length_take]; rfl)) ?_; (with_reducible refine (impl_KindName.calls ((rd_T63 t1140 x8_1).f0) t1154 _ A13.out).mono ?_); rintro e w21 ⟨rfl, hb⟩; refine ⟨_, rfl, ?_⟩; have n0_ := Aside0.mk (Kd.R_below (by (with_reducible repeat (first | apply Kd.R_alloc | apply Kd.R_drewN | apply Kd.R_drew)); exact HO_3.out) hb); have n1_ := Aside0.mk (Kd.R_below (by (with_reducible repeat (first | apply Kd.R_alloc | apply Kd.R_drewN | apply Kd.R_drew)); exact HO_4.out) hb); have n2_ := Aside0.mk (Kd.R_below (by (with_reducible repeat (first | apply Kd.R_alloc | apply Kd.R_drewN | apply Kd.R_drew)); exact HO_5.out) hb); have n3_ := Aside0.mk (below_step (by repeat (first | (with_reducible first | exact HB.out | apply below_alloc | apply pw_below_drewN | apply below_drew1) | exact HB.out)) hb); clear HO_3; clear HO_4; clear HO_5; clear HB; have HO_3 := n0_; have HO_4 := n1_; have HO_5 := n2_; have HB := n3_; clear n0_ n1_ n2_ n3_; (try clear hb); (try clear hb2); (try clear hk); (try clear hi); have p1155 : 0 ≤ (x8_1 : Int) := of_decide_eq_true (by first | (with_reducible assumption) | assumption); have q1155 : x8_1 < (t1140.length : Int) := of_decide_eq_true (by first | (with_reducible assumption) | assumption); obtain ⟨ad1155, e1155, hx1155_0, hx1155_1, hx1155_2⟩ := at_T63 (Kd.R_reads' HO_4.out).2.2 x8_1 p1155 q1155; obtain rfl : ad1153 = ad1155 := (by injection e1155); replace p1155 := eq_true p1155; replace q1155 := eq_true q1155; have p1157 : 0 ≤ (x8_1 : Int) := of_decide_eq_true (by first | (with_reducible assumption) | assumption); have q1157 : x8_1 < (t1140.length : Int) := of_decide_eq_true (by first | (with_reducible assumption) | assumption); obtain ⟨ad1157, e1157, hx1157_0, hx1157_1, hx1157_2⟩ := at_T63 (Kd.R_reads' HO_4.out).2.2 x8_1 p1157 q1157; obtain rfl : ad1153 = ad1157 := (by injection e1157); replace p1157 := eq_true p1157; replace q1157 := eq_true q1157))
          go_roundg k1
          case measure => have := HK1.out; omega
          case rel => exact ⟨(wrap64 (x7_1 + 1)), (wrap64 (x8_1 + 1)), (by first | rfl | (simp; done) | (simp [*]; done)), (by first | rfl | (simp; done) | (simp [*]; done)), H', ⟨by have := HK1.out; omega⟩, ⟨by (with_reducible repeat (first | apply Kd.R_alloc | apply Kd.R_drewN | apply Kd.R_drew)); exact HO_3.out⟩, ⟨by (with_reducible repeat (first | apply Kd.R_alloc | apply Kd.R_drewN | apply Kd.R_drew)); exact HO_4.out⟩, ⟨by (with_reducible repeat (first | apply Kd.R_alloc | apply Kd.R_drewN | apply Kd.R_drew)); exact HO_5.out⟩, ⟨by repeat (first | (with_reducible first | exact HB.out | apply below_alloc | apply pw_below_drewN | apply below_drew1) | exact HB.out)⟩⟩
         ·
          rw [if_neg c20] at H
          have c20b0 : (((rd_T63 t1140 x8_1).f0) == 3) = false := beq_eq_false_iff_ne.mpr c20
          have c20b1 : (((rd_T63 t1140 x8_1).f0) != 3) = true := bne_iff_ne.mpr c20
          have H' := Aside0.mk H
          clear H
          have p1153 : 0 ≤ (x8_1 : Int) := of_decide_eq_true (by first | (with_reducible assumption) | assumption)
          have q1153 : x8_1 < (t1140.length : Int) := of_decide_eq_true (by first | (with_reducible assumption) | assumption)
          obtain ⟨ad1153, e1153, hx1153_0, hx1153_1, hx1153_2⟩ := at_T63 (Kd.R_reads' HO_4.out).2.2 x8_1 p1153 q1153
          cases e1153
          replace p1153 := eq_true p1153
          replace q1153 := eq_true q1153
          go_wp2_with (first | ((with_reducible refine gate_callee (f := 34) rfl ?_); refine goesL_ (some 46) rfl rfl Try.func34 (by kernel_rfl) rfl #[.int .i64 ((rd_T63 t1140 x8_1).f0)] rfl (by (try simp only [List.map_toArray, List.map_cons, List.map_nil]); first | done | rfl | (simp only [List.length_drop, List.length_take]; rfl)) ?_; (with_reducible refine (impl_KindName.calls ((rd_T63 t1140 x8_1).f0) t1154 _ A13.out).mono ?_); rintro e w22 ⟨rfl, hb⟩; refine ⟨_, rfl, ?_⟩; have n0_ := Aside0.mk (Kd.R_below (by (with_reducible repeat (first | apply Kd.R_alloc | apply Kd.R_drewN | apply Kd.R_drew)); exact HO_3.out) hb); have n1_ := Aside0.mk (Kd.R_below (by (with_reducible repeat (first | apply Kd.R_alloc | apply Kd.R_drewN | apply Kd.R_drew)); exact HO_4.out) hb); have n2_ := Aside0.mk (Kd.R_below (by (with_reducible repeat (first | apply Kd.R_alloc | apply Kd.R_drewN | apply Kd.R_drew)); exact HO_5.out) hb); have n3_ := Aside0.mk (below_step (by repeat (first | (with_reducible first | exact HB.out | apply below_alloc | apply pw_below_drewN | apply below_drew1) | exact HB.out)) hb); clear HO_3; clear HO_4; clear HO_5; clear HB; have HO_3 := n0_; have HO_4 := n1_; have HO_5 := n2_; have HB := n3_; clear n0_ n1_ n2_ n3_; (try clear hb); (try clear hb2); (try clear hk); (try clear hi); have p1155 : 0 ≤ (x8_1 : Int) := of_decide_eq_true (by first | (with_reducible assumption) | assumption); have q1155 : x8_1 < (t1140.length : Int) := of_decide_eq_true (by first | (with_reducible assumption) | assumption); obtain ⟨ad1155, e1155, hx1155_0, hx1155_1, hx1155_2⟩ := at_T63 (Kd.R_reads' HO_4.out).2.2 x8_1 p1155 q1155; obtain rfl : ad1153 = ad1155 := (by injection e1155); replace p1155 := eq_true p1155; replace q1155 := eq_true q1155; have p1157 : 0 ≤ (x8_1 : Int) := of_decide_eq_true (by first | (with_reducible assumption) | assumption); have q1157 : x8_1 < (t1140.length : Int) := of_decide_eq_true (by first | (with_reducible assumption) | assumption); obtain ⟨ad1157, e1157, hx1157_0, hx1157_1, hx1157_2⟩ := at_T63 (Kd.R_reads' HO_4.out).2.2 x8_1 p1157 q1157; obtain rfl : ad1153 = ad1157 := (by injection e1157); replace p1157 := eq_true p1157; replace q1157 := eq_true q1157))
          go_roundg k1
          case measure => have := HK1.out; omega
          case rel => exact ⟨(x7_1), (wrap64 (x8_1 + 1)), (by first | rfl | (simp; done) | (simp [*]; done)), (by first | rfl | (simp; done) | (simp [*]; done)), H', ⟨by have := HK1.out; omega⟩, ⟨by (with_reducible repeat (first | apply Kd.R_alloc | apply Kd.R_drewN | apply Kd.R_drew)); exact HO_3.out⟩, ⟨by (with_reducible repeat (first | apply Kd.R_alloc | apply Kd.R_drewN | apply Kd.R_drew)); exact HO_4.out⟩, ⟨by (with_reducible repeat (first | apply Kd.R_alloc | apply Kd.R_drewN | apply Kd.R_drew)); exact HO_5.out⟩, ⟨by repeat (first | (with_reducible first | exact HB.out | apply below_alloc | apply pw_below_drewN | apply below_drew1) | exact HB.out)⟩⟩
      ·
       rw [if_neg c12] at H
       exact absurd H (by simp)
     ·
      rw [if_neg c11] at H
      have c11b0 : decide (x8_1 < (t1140.length : Int)) = false := decide_eq_false c11
      clear c11
      by_cases c23 : (t1145.length : Int) = x7_1
      ·
       rw [if_pos c23] at H
       have c23b0 : ((t1145.length : Int) == x7_1) = true := beq_iff_eq.mpr c23
       have c23b1 : ((t1145.length : Int) != x7_1) = false := bne_eq_false_iff_eq.mpr c23
       clear c23
       replace H := Option.bind_eq_some_iff.mp H
       obtain ⟨t1151, A240, H⟩ := H
       try dsimp only at H
       have A24 := Aside0.mk A240
       clear A240
       by_cases c25 : t1151 ≤ (t1140.length : Int)
       ·
        rw [if_pos c25] at H
        have c25b0 : decide (t1151 ≤ (t1140.length : Int)) = true := decide_eq_true c25
        clear c25
        by_cases c26 : (t1140.length : Int) > 0
        ·
         rw [if_pos c26] at H
         have c26b0 : decide (0 < (t1140.length : Int)) = true := decide_eq_true c26
         have c26b1 : decide (0 < t1140.length) = true := decide_eq_true (by omega)
         clear c26
         obtain rfl := Option.some.inj H
         obtain ⟨Ao27, co27, eo27⟩ := Kd.R_slice HO_5.out
         subst eo27
         go_wp2_with (first | (go_at_call 33; (with_reducible refine (impl_CountReal.calls k1 _ _ t1139 _ _ t1140 t1151 _ ?side1 ?side2 ?side3 ?side4 A24.out).mono ?_); (case side1 => repeat (first | exact (Kd.R_reads' HO_3.out).2.2 | (with_reducible refine Kd.C_alloc ?_ _) | (with_reducible refine Kd.C_drewN ?_ _) | (with_reducible refine Kd.C_drew ?_))); (case side2 => exact (Kd.R_reads' HO_3.out).2.1); (case side3 => repeat (first | exact (Kd.R_reads' HO_4.out).2.2 | (with_reducible refine Kd.C_alloc ?_ _) | (with_reducible refine Kd.C_drewN ?_ _) | (with_reducible refine Kd.C_drew ?_))); (case side4 => exact (Kd.R_reads' HO_4.out).2.1); rintro e w28 ⟨rfl, hb⟩; have n0_ := Aside0.mk (Kd.R_below (by (with_reducible repeat (first | apply Kd.R_alloc | apply Kd.R_drewN | apply Kd.R_drew)); exact HO_3.out) hb); have n1_ := Aside0.mk (Kd.R_below (by (with_reducible repeat (first | apply Kd.R_alloc | apply Kd.R_drewN | apply Kd.R_drew)); exact HO_4.out) hb); have n2_ := Aside0.mk (Kd.R_below (by (with_reducible repeat (first | apply Kd.R_alloc | apply Kd.R_drewN | apply Kd.R_drew)); exact HO_5.out) hb); have n3_ := Aside0.mk (below_step (by repeat (first | (with_reducible first | exact HB.out | apply below_alloc | apply pw_below_drewN | apply below_drew1) | exact HB.out)) hb); clear HO_3; clear HO_4; clear HO_5; clear HB; have HO_3 := n0_; have HO_4 := n1_; have HO_5 := n2_; have HB := n3_; clear n0_ n1_ n2_ n3_; (try clear hb); (try clear hb2); (try clear hk); (try clear hi)))
         go_ret
         exact ⟨by first | rfl | (simp [errW_none, errW_some] <;> rfl) | (simp [*, errW_none, errW_some] <;> rfl), by repeat (first | (with_reducible first | exact HB.out | apply below_alloc | apply pw_below_drewN | apply below_drew1) | exact HB.out)⟩
        ·
         rw [if_neg c26] at H
         have c26b0 : decide (0 < (t1140.length : Int)) = false := decide_eq_false c26
         have c26b1 : decide (0 < t1140.length) = false := decide_eq_false (by omega)
         clear c26
         replace H := Option.bind_eq_some_iff.mp H
         obtain ⟨t1152, A290, H⟩ := H
         try dsimp only at H
         have A29 := Aside0.mk A290
         clear A290
         obtain rfl := Option.some.inj H
         obtain ⟨Ao30, co30, eo30⟩ := Kd.R_slice HO_5.out
         subst eo30
         go_wp2_with (first | (go_at_call 33; (with_reducible refine (impl_CountReal.calls k1 _ _ t1139 _ _ t1140 t1151 _ ?side1 ?side2 ?side3 ?side4 A24.out).mono ?_); (case side1 => repeat (first | exact (Kd.R_reads' HO_3.out).2.2 | (with_reducible refine Kd.C_alloc ?_ _) | (with_reducible refine Kd.C_drewN ?_ _) | (with_reducible refine Kd.C_drew ?_))); (case side2 => exact (Kd.R_reads' HO_3.out).2.1); (case side3 => repeat (first | exact (Kd.R_reads' HO_4.out).2.2 | (with_reducible refine Kd.C_alloc ?_ _) | (with_reducible refine Kd.C_drewN ?_ _) | (with_reducible refine Kd.C_drew ?_))); (case side4 => exact (Kd.R_reads' HO_4.out).2.1); rintro e w31 ⟨rfl, hb⟩; have n0_ := Aside0.mk (Kd.R_below (by (with_reducible repeat (first | apply Kd.R_alloc | apply Kd.R_drewN | apply Kd.R_drew)); exact HO_3.out) hb); have n1_ := Aside0.mk (Kd.R_below (by (with_reducible repeat (first | apply Kd.R_alloc | apply Kd.R_drewN | apply Kd.R_drew)); exact HO_4.out) hb); have n2_ := Aside0.mk (Kd.R_below (by (with_reducible repeat (first | apply Kd.R_alloc | apply Kd.R_drewN | apply Kd.R_drew)); exact HO_5.out) hb); have n3_ := Aside0.mk (below_step (by repeat (first | (with_reducible first | exact HB.out | apply below_alloc | apply pw_below_drewN | apply below_drew1) | exact HB.out)) hb); clear HO_3; clear HO_4; clear HO_5; clear HB; have HO_3 := n0_; have HO_4 := n1_; have HO_5 := n2_; have HB := n3_; clear n0_ n1_ n2_ n3_; (try clear hb); (try clear hb2); (try clear hk); (try clear hi)) | (go_at_call 30; (with_reducible refine (laws_sameInts.calls k1 _ _ t1145 _ _ t1139 t1152 _ ?side1 ?side2 ?side3 ?side4 A29.out).mono ?_); (case side1 => repeat (first | exact (Kd.R_reads' HO_5.out).2.2 | (with_reducible refine Kd.C_alloc ?_ _) | (with_reducible refine Kd.C_drewN ?_ _) | (with_reducible refine Kd.C_drew ?_))); (case side2 => exact (Kd.R_reads' HO_5.out).2.1); (case side3 => repeat (first | exact (Kd.R_reads' HO_3.out).2.2 | (with_reducible refine Kd.C_alloc ?_ _) | (with_reducible refine Kd.C_drewN ?_ _) | (with_reducible refine Kd.C_drew ?_))); (case side4 => exact (Kd.R_reads' HO_3.out).2.1); rintro e w' ⟨rfl, ⟨nd, rfl⟩⟩))
         go_ret
         exact ⟨by first | rfl | (simp [errW_none, errW_some] <;> rfl) | (simp [*, errW_none, errW_some] <;> rfl), by repeat (first | (with_reducible first | exact HB.out | apply below_alloc | apply pw_below_drewN | apply below_drew1) | exact HB.out)⟩
       ·
        rw [if_neg c25] at H
        have c25b0 : decide (t1151 ≤ (t1140.length : Int)) = false := decide_eq_false c25
        clear c25
        obtain rfl := Option.some.inj H
        obtain ⟨Ao32, co32, eo32⟩ := Kd.R_slice HO_5.out
        subst eo32
        go_wp2_with (first | (go_at_call 33; (with_reducible refine (impl_CountReal.calls k1 _ _ t1139 _ _ t1140 t1151 _ ?side1 ?side2 ?side3 ?side4 A24.out).mono ?_); (case side1 => repeat (first | exact (Kd.R_reads' HO_3.out).2.2 | (with_reducible refine Kd.C_alloc ?_ _) | (with_reducible refine Kd.C_drewN ?_ _) | (with_reducible refine Kd.C_drew ?_))); (case side2 => exact (Kd.R_reads' HO_3.out).2.1); (case side3 => repeat (first | exact (Kd.R_reads' HO_4.out).2.2 | (with_reducible refine Kd.C_alloc ?_ _) | (with_reducible refine Kd.C_drewN ?_ _) | (with_reducible refine Kd.C_drew ?_))); (case side4 => exact (Kd.R_reads' HO_4.out).2.1); rintro e w33 ⟨rfl, hb⟩; have n0_ := Aside0.mk (Kd.R_below (by (with_reducible repeat (first | apply Kd.R_alloc | apply Kd.R_drewN | apply Kd.R_drew)); exact HO_3.out) hb); have n1_ := Aside0.mk (Kd.R_below (by (with_reducible repeat (first | apply Kd.R_alloc | apply Kd.R_drewN | apply Kd.R_drew)); exact HO_4.out) hb); have n2_ := Aside0.mk (Kd.R_below (by (with_reducible repeat (first | apply Kd.R_alloc | apply Kd.R_drewN | apply Kd.R_drew)); exact HO_5.out) hb); have n3_ := Aside0.mk (below_step (by repeat (first | (with_reducible first | exact HB.out | apply below_alloc | apply pw_below_drewN | apply below_drew1) | exact HB.out)) hb); clear HO_3; clear HO_4; clear HO_5; clear HB; have HO_3 := n0_; have HO_4 := n1_; have HO_5 := n2_; have HB := n3_; clear n0_ n1_ n2_ n3_; (try clear hb); (try clear hb2); (try clear hk); (try clear hi)))
        go_ret
        exact ⟨by first | rfl | (simp [errW_none, errW_some] <;> rfl) | (simp [*, errW_none, errW_some] <;> rfl), by repeat (first | (with_reducible first | exact HB.out | apply below_alloc | apply pw_below_drewN | apply below_drew1) | exact HB.out)⟩
      ·
       rw [if_neg c23] at H
       have c23b0 : ((t1145.length : Int) == x7_1) = false := beq_eq_false_iff_ne.mpr c23
       have c23b1 : ((t1145.length : Int) != x7_1) = true := bne_iff_ne.mpr c23
       obtain rfl := Option.some.inj H
       obtain ⟨Ao34, co34, eo34⟩ := Kd.R_slice HO_5.out
       subst eo34
       go_wp2
       go_ret
       exact ⟨by first | rfl | (simp [errW_none, errW_some] <;> rfl) | (simp [*, errW_none, errW_some] <;> rfl), by repeat (first | (with_reducible first | exact HB.out | apply below_alloc | apply pw_below_drewN | apply below_drew1) | exact HB.out)⟩
  ·
   replace c6 := Bool.eq_false_iff.mpr c6
   subst c6
   rw [if_neg (show ¬ (false = true) by decide)] at H
   replace H := Option.bind_eq_some_iff.mp H
   obtain ⟨t1149, A350, H⟩ := H
   try dsimp only at H
   have A35 := Aside0.mk A350
   clear A350
   by_cases c36 : t1149 = true
   ·
    subst c36
    rw [if_pos rfl] at H
    replace H := Option.bind_eq_some_iff.mp H
    obtain ⟨t1150, A370, H⟩ := H
    try dsimp only at H
    have A37 := Aside0.mk A370
    clear A370
    obtain rfl := Option.some.inj H
    go_enter Try.func5, Try.ntmps5
    go_wp2_with (first | ((with_reducible refine gate_callee (f := 10) rfl ?_); refine goesL_ (some 10) rfl rfl Try.func10 (by kernel_rfl) rfl #[.slice A0 l0.length c0] rfl (by (try simp only [List.map_toArray, List.map_cons, List.map_nil]); first | done | rfl | (simp only [List.length_drop, List.length_take]; rfl)) ?_; (with_reducible refine (laws_big.calls _ _ l0 false _ ?side1 ?side2 A2.out).mono ?_); (case side1 => repeat (first | exact HR0.out | (with_reducible refine Kd.C_alloc ?_ _) | (with_reducible refine Kd.C_drewN ?_ _) | (with_reducible refine Kd.C_drew ?_))); (case side2 => exact HC0.out); rintro e w' ⟨rfl, ⟨nd, rfl⟩⟩; refine ⟨_, rfl, ?_⟩) | ((with_reducible refine gate_callee (f := 31) rfl ?_); refine goesL_ (some 13) rfl rfl Try.func31 (by kernel_rfl) rfl #[.slice A0 l0.length c0] rfl (by (try simp only [List.map_toArray, List.map_cons, List.map_nil]); first | done | rfl | (simp only [List.length_drop, List.length_take]; rfl)) ?_; (with_reducible refine (spec_DrawErrBy.calls k _ _ l0 t1139 t1140 _ ?side1 ?side2 A4.out).mono ?_); (case side1 => repeat (first | exact HR0.out | (with_reducible refine Kd.C_alloc ?_ _) | (with_reducible refine Kd.C_drewN ?_ _) | (with_reducible refine Kd.C_drew ?_))); (case side2 => exact HC0.out); rintro e w38 ⟨v1141, v1143, rfl, ho0, ho1, hb⟩; refine ⟨_, rfl, ?_⟩; have n0_ := Aside0.mk (Kd.R_lower ho0 (below_size (by repeat (first | (with_reducible first | exact HB.out | apply below_alloc | apply pw_below_drewN | apply below_drew1) | exact HB.out)))); have n1_ := Aside0.mk (Kd.R_lower ho1 (below_size (by repeat (first | (with_reducible first | exact HB.out | apply below_alloc | apply pw_below_drewN | apply below_drew1) | exact HB.out)))); have n2_ := Aside0.mk (below_step (by repeat (first | (with_reducible first | exact HB.out | apply below_alloc | apply pw_below_drewN | apply below_drew1) | exact HB.out)) hb); clear HB; have HO1142 := n0_; have HO1144 := n1_; have HB := n2_; clear n0_ n1_ n2_; (try clear hb); (try clear hb2); (try clear hk); (try clear hi); (try clear ho0); (try clear ho1); obtain ⟨Ao39, co39, eo39⟩ := Kd.R_slice HO1142.out; subst eo39; obtain ⟨Ao40, co40, eo40⟩ := Kd.R_slice HO1144.out; subst eo40) | ((with_reducible refine gate_callee (f := 32) rfl ?_); refine goesL_ (some 19) rfl rfl Try.func32 (by kernel_rfl) rfl #[.slice Ao39 t1139.length co39, .slice Ao40 t1140.length co40] rfl (by (try simp only [List.map_toArray, List.map_cons, List.map_nil]); first | done | rfl | (simp only [List.length_drop, List.length_take]; rfl)) ?_; (with_reducible refine (impl_ErrBy.calls k _ _ t1139 _ _ t1140 t1145 false _ ?side1 ?side2 ?side3 ?side4 A5.out).mono ?_); (case side1 => repeat (first | exact (Kd.R_reads' HO1142.out).2.2 | (with_reducible refine Kd.C_alloc ?_ _) | (with_reducible refine Kd.C_drewN ?_ _) | (with_reducible refine Kd.C_drew ?_))); (case side2 => exact (Kd.R_reads' HO1142.out).2.1); (case side3 => repeat (first | exact (Kd.R_reads' HO1144.out).2.2 | (with_reducible refine Kd.C_alloc ?_ _) | (with_reducible refine Kd.C_drewN ?_ _) | (with_reducible refine Kd.C_drew ?_))); (case side4 => exact (Kd.R_reads' HO1144.out).2.1); rintro e w41 ⟨v1147, rfl, ho0, hb⟩; refine ⟨_, rfl, ?_⟩; have n0_ := Aside0.mk (Kd.R_elder' (by (with_reducible repeat (first | apply Kd.R_alloc | apply Kd.R_drewN | apply Kd.R_drew)); exact HO1142.out) (Kd.R_base ho0) hb); have n1_ := Aside0.mk (Kd.R_below (by (with_reducible repeat (first | apply Kd.R_alloc | apply Kd.R_drewN | apply Kd.R_drew)); exact HO1144.out) hb); have n2_ := Aside0.mk (Kd.R_lower (Kd.R_new' ho0 (Kd.R_lt (by (with_reducible repeat (first | apply Kd.R_alloc | apply Kd.R_drewN | apply Kd.R_drew)); exact HO1142.out))) (below_size (by repeat (first | (with_reducible first | exact HB.out | apply below_alloc | apply pw_below_drewN | apply below_drew1) | exact HB.out)))); have n3_ := Aside0.mk (below_step (by repeat (first | (with_reducible first | exact HB.out | apply below_alloc | apply pw_below_drewN | apply below_drew1) | exact HB.out)) hb); clear HO1142; clear HO1144; clear HB; have HO1142 := n0_; have HO1144 := n1_; have HO1148 := n2_; have HB := n3_; clear n0_ n1_ n2_ n3_; (try clear hb); (try clear hb2); (try clear hk); (try clear hi); (try clear ho0); obtain ⟨Ao42, co42, eo42⟩ := Kd.R_slice HO1148.out; subst eo42) | ((with_reducible refine gate_callee (f := 30) rfl ?_); refine goesL_ (some 26) rfl rfl Try.func30 (by kernel_rfl) rfl #[.slice Ao42 t1145.length co42, .slice Ao39 t1139.length co39] rfl (by (try simp only [List.map_toArray, List.map_cons, List.map_nil]); first | done | rfl | (simp only [List.length_drop, List.length_take]; rfl)) ?_; (with_reducible refine (laws_sameInts.calls k _ _ t1145 _ _ t1139 true _ ?side1 ?side2 ?side3 ?side4 A35.out).mono ?_); (case side1 => repeat (first | exact (Kd.R_reads' HO1148.out).2.2 | (with_reducible refine Kd.C_alloc ?_ _) | (with_reducible refine Kd.C_drewN ?_ _) | (with_reducible refine Kd.C_drew ?_))); (case side2 => exact (Kd.R_reads' HO1148.out).2.1); (case side3 => repeat (first | exact (Kd.R_reads' HO1142.out).2.2 | (with_reducible refine Kd.C_alloc ?_ _) | (with_reducible refine Kd.C_drewN ?_ _) | (with_reducible refine Kd.C_drew ?_))); (case side4 => exact (Kd.R_reads' HO1142.out).2.1); rintro e w' ⟨rfl, ⟨nd, rfl⟩⟩; refine ⟨_, rfl, ?_⟩) | (go_at_call 33; (with_reducible refine (impl_CountReal.calls k _ _ t1139 _ _ t1140 t1150 _ ?side1 ?side2 ?side3 ?side4 A37.out).mono ?_); (case side1 => repeat (first | exact (Kd.R_reads' HO1142.out).2.2 | (with_reducible refine Kd.C_alloc ?_ _) | (with_reducible refine Kd.C_drewN ?_ _) | (with_reducible refine Kd.C_drew ?_))); (case side2 => exact (Kd.R_reads' HO1142.out).2.1); (case side3 => repeat (first | exact (Kd.R_reads' HO1144.out).2.2 | (with_reducible refine Kd.C_alloc ?_ _) | (with_reducible refine Kd.C_drewN ?_ _) | (with_reducible refine Kd.C_drew ?_))); (case side4 => exact (Kd.R_reads' HO1144.out).2.1); rintro e w43 ⟨rfl, hb⟩; have n0_ := Aside0.mk (Kd.R_below (by (with_reducible repeat (first | apply Kd.R_alloc | apply Kd.R_drewN | apply Kd.R_drew)); exact HO1142.out) hb); have n1_ := Aside0.mk (Kd.R_below (by (with_reducible repeat (first | apply Kd.R_alloc | apply Kd.R_drewN | apply Kd.R_drew)); exact HO1144.out) hb); have n2_ := Aside0.mk (Kd.R_below (by (with_reducible repeat (first | apply Kd.R_alloc | apply Kd.R_drewN | apply Kd.R_drew)); exact HO1148.out) hb); have n3_ := Aside0.mk (below_step (by repeat (first | (with_reducible first | exact HB.out | apply below_alloc | apply pw_below_drewN | apply below_drew1) | exact HB.out)) hb); clear HO1142; clear HO1144; clear HO1148; clear HB; have HO1142 := n0_; have HO1144 := n1_; have HO1148 := n2_; have HB := n3_; clear n0_ n1_ n2_ n3_; (try clear hb); (try clear hb2); (try clear hk); (try clear hi)))
    go_ret
    exact ⟨by first | rfl | (simp [errW_none, errW_some] <;> rfl) | (simp [*, errW_none, errW_some] <;> rfl), by repeat (first | (with_reducible first | exact HB.out | apply below_alloc | apply pw_below_drewN | apply below_drew1) | exact HB.out)⟩
   ·
    replace c36 := Bool.eq_false_iff.mpr c36
    subst c36
    rw [if_neg (show ¬ (false = true) by decide)] at H
    obtain rfl := Option.some.inj H
    go_enter Try.func5, Try.ntmps5
    go_wp2_with (first | ((with_reducible refine gate_callee (f := 10) rfl ?_); refine goesL_ (some 10) rfl rfl Try.func10 (by kernel_rfl) rfl #[.slice A0 l0.length c0] rfl (by (try simp only [List.map_toArray, List.map_cons, List.map_nil]); first | done | rfl | (simp only [List.length_drop, List.length_take]; rfl)) ?_; (with_reducible refine (laws_big.calls _ _ l0 false _ ?side1 ?side2 A2.out).mono ?_); (case side1 => repeat (first | exact HR0.out | (with_reducible refine Kd.C_alloc ?_ _) | (with_reducible refine Kd.C_drewN ?_ _) | (with_reducible refine Kd.C_drew ?_))); (case side2 => exact HC0.out); rintro e w' ⟨rfl, ⟨nd, rfl⟩⟩; refine ⟨_, rfl, ?_⟩) | ((with_reducible refine gate_callee (f := 31) rfl ?_); refine goesL_ (some 13) rfl rfl Try.func31 (by kernel_rfl) rfl #[.slice A0 l0.length c0] rfl (by (try simp only [List.map_toArray, List.map_cons, List.map_nil]); first | done | rfl | (simp only [List.length_drop, List.length_take]; rfl)) ?_; (with_reducible refine (spec_DrawErrBy.calls k _ _ l0 t1139 t1140 _ ?side1 ?side2 A4.out).mono ?_); (case side1 => repeat (first | exact HR0.out | (with_reducible refine Kd.C_alloc ?_ _) | (with_reducible refine Kd.C_drewN ?_ _) | (with_reducible refine Kd.C_drew ?_))); (case side2 => exact HC0.out); rintro e w44 ⟨v1141, v1143, rfl, ho0, ho1, hb⟩; refine ⟨_, rfl, ?_⟩; have n0_ := Aside0.mk (Kd.R_lower ho0 (below_size (by repeat (first | (with_reducible first | exact HB.out | apply below_alloc | apply pw_below_drewN | apply below_drew1) | exact HB.out)))); have n1_ := Aside0.mk (Kd.R_lower ho1 (below_size (by repeat (first | (with_reducible first | exact HB.out | apply below_alloc | apply pw_below_drewN | apply below_drew1) | exact HB.out)))); have n2_ := Aside0.mk (below_step (by repeat (first | (with_reducible first | exact HB.out | apply below_alloc | apply pw_below_drewN | apply below_drew1) | exact HB.out)) hb); clear HB; have HO1142 := n0_; have HO1144 := n1_; have HB := n2_; clear n0_ n1_ n2_; (try clear hb); (try clear hb2); (try clear hk); (try clear hi); (try clear ho0); (try clear ho1); obtain ⟨Ao45, co45, eo45⟩ := Kd.R_slice HO1142.out; subst eo45; obtain ⟨Ao46, co46, eo46⟩ := Kd.R_slice HO1144.out; subst eo46) | ((with_reducible refine gate_callee (f := 32) rfl ?_); refine goesL_ (some 19) rfl rfl Try.func32 (by kernel_rfl) rfl #[.slice Ao45 t1139.length co45, .slice Ao46 t1140.length co46] rfl (by (try simp only [List.map_toArray, List.map_cons, List.map_nil]); first | done | rfl | (simp only [List.length_drop, List.length_take]; rfl)) ?_; (with_reducible refine (impl_ErrBy.calls k _ _ t1139 _ _ t1140 t1145 false _ ?side1 ?side2 ?side3 ?side4 A5.out).mono ?_); (case side1 => repeat (first | exact (Kd.R_reads' HO1142.out).2.2 | (with_reducible refine Kd.C_alloc ?_ _) | (with_reducible refine Kd.C_drewN ?_ _) | (with_reducible refine Kd.C_drew ?_))); (case side2 => exact (Kd.R_reads' HO1142.out).2.1); (case side3 => repeat (first | exact (Kd.R_reads' HO1144.out).2.2 | (with_reducible refine Kd.C_alloc ?_ _) | (with_reducible refine Kd.C_drewN ?_ _) | (with_reducible refine Kd.C_drew ?_))); (case side4 => exact (Kd.R_reads' HO1144.out).2.1); rintro e w47 ⟨v1147, rfl, ho0, hb⟩; refine ⟨_, rfl, ?_⟩; have n0_ := Aside0.mk (Kd.R_elder' (by (with_reducible repeat (first | apply Kd.R_alloc | apply Kd.R_drewN | apply Kd.R_drew)); exact HO1142.out) (Kd.R_base ho0) hb); have n1_ := Aside0.mk (Kd.R_below (by (with_reducible repeat (first | apply Kd.R_alloc | apply Kd.R_drewN | apply Kd.R_drew)); exact HO1144.out) hb); have n2_ := Aside0.mk (Kd.R_lower (Kd.R_new' ho0 (Kd.R_lt (by (with_reducible repeat (first | apply Kd.R_alloc | apply Kd.R_drewN | apply Kd.R_drew)); exact HO1142.out))) (below_size (by repeat (first | (with_reducible first | exact HB.out | apply below_alloc | apply pw_below_drewN | apply below_drew1) | exact HB.out)))); have n3_ := Aside0.mk (below_step (by repeat (first | (with_reducible first | exact HB.out | apply below_alloc | apply pw_below_drewN | apply below_drew1) | exact HB.out)) hb); clear HO1142; clear HO1144; clear HB; have HO1142 := n0_; have HO1144 := n1_; have HO1148 := n2_; have HB := n3_; clear n0_ n1_ n2_ n3_; (try clear hb); (try clear hb2); (try clear hk); (try clear hi); (try clear ho0); obtain ⟨Ao48, co48, eo48⟩ := Kd.R_slice HO1148.out; subst eo48) | ((with_reducible refine gate_callee (f := 30) rfl ?_); refine goesL_ (some 26) rfl rfl Try.func30 (by kernel_rfl) rfl #[.slice Ao48 t1145.length co48, .slice Ao45 t1139.length co45] rfl (by (try simp only [List.map_toArray, List.map_cons, List.map_nil]); first | done | rfl | (simp only [List.length_drop, List.length_take]; rfl)) ?_; (with_reducible refine (laws_sameInts.calls k _ _ t1145 _ _ t1139 false _ ?side1 ?side2 ?side3 ?side4 A35.out).mono ?_); (case side1 => repeat (first | exact (Kd.R_reads' HO1148.out).2.2 | (with_reducible refine Kd.C_alloc ?_ _) | (with_reducible refine Kd.C_drewN ?_ _) | (with_reducible refine Kd.C_drew ?_))); (case side2 => exact (Kd.R_reads' HO1148.out).2.1); (case side3 => repeat (first | exact (Kd.R_reads' HO1142.out).2.2 | (with_reducible refine Kd.C_alloc ?_ _) | (with_reducible refine Kd.C_drewN ?_ _) | (with_reducible refine Kd.C_drew ?_))); (case side4 => exact (Kd.R_reads' HO1142.out).2.1); rintro e w' ⟨rfl, ⟨nd, rfl⟩⟩; refine ⟨_, rfl, ?_⟩))
    go_ret
    exact ⟨by first | rfl | (simp [errW_none, errW_some] <;> rfl) | (simp [*, errW_none, errW_some] <;> rfl), by repeat (first | (with_reducible first | exact HB.out | apply below_alloc | apply pw_below_drewN | apply below_drew1) | exact HB.out)⟩
end Go.Proofs.Ytbhlmeghbfmgiaa.F

namespace Go.Proofs.Ytbhlmeghbfmgiaa.Opened
open Go.ChangeShapes Go.WideShapes Go.Deep Go.RowKit Go.Joins Go.Proofs.YtbhlmeghbfmgiaaW.PrintWords
set_option linter.unusedVariables false
def I64 (n : Int) : Prop := -9223372036854775808 ≤ n ∧ n ≤ 9223372036854775807
theorem i64_of {n : Int} (h : (Lit.int .i64 n).wf = true) : I64 n := bounds_i64 h
section
variable {H : Type} {enc : TypeId × Value → H} {P : Program} {w : World} {base : Nat} {spare : Nat → Bool} {held : Bool}
def Fits (enc : TypeId × Value → H) (P : Program) (w : World) (base : Nat) (spare : Nat → Bool) (held : Bool) (fs : Array Field) (vs : List Value) : Prop :=
  vs.length = fs.size ∧ ∀ (j : Nat) (f : Field) (v : Value), fs[j]? = some f → vs[j]? = some v → ∃ (n : Nat) (y : DataW H × List MemPlace), DataW.trod enc P w base spare held n f.type [v] = some y
theorem Fits.int {fs : Array Field} {vs : List Value} (h : Fits enc P w base spare held fs vs) {j : Nat} {f : Field} (hf : fs[j]? = some f) (ht : P.underlying f.type = some (.int .i64)) : ∃ n, vs[j]? = some (.int .i64 n) ∧ I64 n := by
  have hj : j < vs.length := by rw [h.1]; exact (Array.getElem?_eq_some_iff.1 hf).1
  obtain ⟨m, y, hy⟩ := h.2 j f _ hf (List.getElem?_eq_getElem hj)
  obtain ⟨n, e, _, hw⟩ := DataW.trod_int ht hy
  simp only [List.cons.injEq, and_true] at e
  exact ⟨n, by rw [List.getElem?_eq_getElem hj, e], i64_of hw⟩
theorem Fits.bool {fs : Array Field} {vs : List Value} (h : Fits enc P w base spare held fs vs) {j : Nat} {f : Field} (hf : fs[j]? = some f) (ht : P.underlying f.type = some .bool) : ∃ b, vs[j]? = some (.bool b) := by
  have hj : j < vs.length := by rw [h.1]; exact (Array.getElem?_eq_some_iff.1 hf).1
  obtain ⟨m, y, hy⟩ := h.2 j f _ hf (List.getElem?_eq_getElem hj)
  obtain ⟨n, e, _⟩ := DataW.trod_bool ht hy
  simp only [List.cons.injEq, and_true] at e
  exact ⟨n, by rw [List.getElem?_eq_getElem hj, e]⟩
theorem open_nums {k : IntKind} {t e : TypeId} {a : Option Addr} {len cap : Nat} {dd : DataW H} {ps : List MemPlace} (ht : P.underlying t = some (.slice e)) (he : P.underlying e = some (.int k)) (hC : P.cellsOf e = 1)
    (h : DataW.Trod enc P w base spare held t (.slice a len cap) dd ps) : ∃ l : List Int, l.length = len ∧ len ≤ cap ∧ (Kd.int k).C w a len l ∧ ∀ x ∈ l, (Lit.int k x).wf = true := by
  obtain ⟨fuel, hf⟩ := h
  rcases open_ints ht he hC hf with ⟨hcs, _⟩ | ⟨x, l, c, zs, hcs, _, hl, hm, hz, _, hcell, hwz⟩
  · simp [Value.cells] at hcs
    obtain ⟨rfl, rfl, rfl⟩ := hcs
    exact ⟨[], rfl, Nat.le_refl _, Kd.C_nil _ w, by simp⟩
  · simp [Value.cells] at hcs
    obtain ⟨rfl, rfl, rfl⟩ := hcs
    have hlz : len ≤ zs.length := by rw [hz]; split <;> omega
    refine ⟨zs.take len, by simp [hlz], hl, ⟨by simp [hlz], by unfold maxLen at hm; omega, fun _ => ⟨x, rfl, fun j p hj => ⟨[.int k p], rfl, rfl, fun i u hu => ?_⟩⟩⟩, fun y hy => hwz y (List.mem_of_mem_take hy)⟩
    have hjl := (List.getElem?_eq_some_iff.1 hj).1
    rw [List.length_take] at hjl
    have hi : i = 0 := by
      have := (List.getElem?_eq_some_iff.1 hu).1
      simp at this
      omega
    subst hi
    have hu' : Value.int k p = u := by simpa using hu
    rw [← hu', show (Kd.int k).sz = 1 from rfl, Nat.mul_one, Nat.add_zero, hcell j (by omega)]
    rw [List.getElem?_take_of_lt (by omega)] at hj
    simp [hj]
end
end Go.Proofs.Ytbhlmeghbfmgiaa.Opened

namespace Go.Proofs.Ytbhlmeghbfmgiaa.F
open Go.RowKit Go.Proofs.Ytbhlmeghbfmgiaa.Opened Go.Proofs.YtbhlmeghbfmgiaaW.PrintWords Go.Proofs.YtbhlmeghbfmgiaaW.PrintLast
set_option linter.unusedVariables false
set_option linter.unusedSimpArgs false
theorem w1 {n m : Nat} (h : n < m) (hm : m ≤ 9223372036854775807) : wrap64 ((n : Int) + 1) = ((n + 1 : Nat) : Int) := by unfold wrap64; omega
theorem wid {x : Int} (h0 : -9223372036854775808 ≤ x) (h1 : x ≤ 9223372036854775807) : wrap64 x = x := by unfold wrap64; omega
theorem rd_nat (xs : List Int) (n : Nat) (h : n < xs.length) : rd xs (n : Int) = xs[n] := by simp [rd, h]
theorem rdT63 (xs : List S63) (n : Nat) (h : n < xs.length) : rd_T63 xs (n : Int) = xs[n] := by simp [rd_T63, h]
end Go.Proofs.Ytbhlmeghbfmgiaa.F

namespace Go.Proofs.Ytbhlmeghbfmgiaa.F
open Go.RowKit Go.Proofs.Ytbhlmeghbfmgiaa.Opened Go.Proofs.YtbhlmeghbfmgiaaW.PrintWords Go.Proofs.YtbhlmeghbfmgiaaW.PrintLast Go.Proofs.YtbhlmeghbfmgiaaW.PrintMore
set_option linter.unusedVariables false
set_option linter.unusedSimpArgs false
theorem impl_InRange.ok (a b c : Int) : impl_InRange.f a b c = some (decide (b ≤ a ∧ a ≤ c)) := by
  unfold impl_InRange.f
  by_cases h : b ≤ a <;> simp [h]
end Go.Proofs.Ytbhlmeghbfmgiaa.F

namespace Go.Proofs.Ytbhlmeghbfmgiaa.F
open Go.RowKit Go.Proofs.Ytbhlmeghbfmgiaa.Opened Go.Proofs.YtbhlmeghbfmgiaaW.PrintWords Go.Proofs.YtbhlmeghbfmgiaaW.PrintLast Go.Proofs.YtbhlmeghbfmgiaaW.PrintMore
set_option linter.unusedVariables false
set_option linter.unusedSimpArgs false
abbrev Slp := S63
def mo (a f : Int) : Int := if f = 3 then a else a - 1
def gtS : Option Slp → Slp → Bool
  | none, _ => true
  | some q, e => decide (¬ q.f1 ≤ e.f1)
def stepS (a : Int) (q : Option Slp) (e : Slp) : Bool := decide (1 ≤ e.f0 ∧ e.f0 ≤ 3) && (decide (0 ≤ e.f1 ∧ e.f1 ≤ mo a e.f0) && (decide (0 ≤ e.f2 ∧ e.f2 ≤ 127) && ((decide (¬ e.f0 = 2) || decide (e.f2 = 0)) && gtS q e)))
def slB (a : Int) : Option Slp → List Slp → Bool
  | _, [] => true
  | q, e :: l => stepS a q e && slB a (some e) l
def isSlipsB (l : List Slp) (a : Int) : Bool := decide (0 ≤ a ∧ a ≤ 1000) && (slB a none l && decide (l.length ≤ 8))
def prevS (l : List Slp) (n : Nat) : Option Slp := if n = 0 then none else l[n - 1]?
theorem prevS_next (l : List Slp) (n : Nat) (h : n < l.length) : prevS l (n + 1) = some l[n] := by simp [prevS, h]
theorem prevS_pos (l : List Slp) (n : Nat) (h0 : n ≠ 0) (h : n - 1 < l.length) : prevS l n = some l[n - 1] := by simp [prevS, h0, h]
theorem prevIfS (l : List Slp) (n : Nat) (h : n < l.length) (hm : l.length ≤ 9223372036854775807) (R : Option Bool) : (if (n : Int) > 0 then (if 0 ≤ wrap64 ((n : Int) - 1) then (if wrap64 ((n : Int) - 1) < (l.length : Int) then (if (rd_T63 l (wrap64 ((n : Int) - 1))).f1 ≤ l[n].f1 then some false else R) else none) else none) else R) = if gtS (prevS l n) l[n] = true then R else some false := by
  by_cases h0 : n = 0
  · subst h0
    simp [prevS, gtS]
  · have e : wrap64 ((n : Int) - 1) = ((n - 1 : Nat) : Int) := by unfold wrap64; omega
    rw [if_pos (by omega), e, if_pos (by omega), if_pos (by omega), rdT63 l (n - 1) (by omega), prevS_pos l n h0 (by omega)]
    by_cases c : l[n - 1].f1 ≤ l[n].f1
    · rw [if_pos c]
      simp [gtS, c]
    · rw [if_neg c]
      have c' : l[n].f1 < l[n - 1].f1 := by omega
      simp [gtS, c']
theorem slStep (a : Int) (q : Option Slp) (e : Slp) (R : Option Bool) : (if decide (1 ≤ e.f0 ∧ e.f0 ≤ 3) = true then (if decide (0 ≤ e.f1 ∧ e.f1 ≤ mo a e.f0) = true then (if decide (0 ≤ e.f2 ∧ e.f2 ≤ 127) = true then (if e.f0 = 2 then (if e.f2 = 0 then (if gtS q e = true then R else some false) else some false) else (if gtS q e = true then R else some false)) else some false) else some false) else some false) = if stepS a q e = true then R else some false := by
  unfold stepS
  by_cases c1 : decide (1 ≤ e.f0 ∧ e.f0 ≤ 3) = true
  · by_cases c2 : decide (0 ≤ e.f1 ∧ e.f1 ≤ mo a e.f0) = true
    · by_cases c3 : decide (0 ≤ e.f2 ∧ e.f2 ≤ 127) = true
      · rw [if_pos c1, if_pos c2, if_pos c3, c1, c2, c3]
        by_cases c4 : e.f0 = 2
        · by_cases c5 : e.f2 = 0
          · simp only [c4, c5, if_true, decide_true, Bool.or_true, Bool.true_and]
          · simp only [c4, c5, if_true, if_false, decide_true, decide_false, not_true_eq_false, Bool.or_false, Bool.false_and, Bool.and_false, Bool.false_eq_true]
        · simp only [c4, if_false, decide_true, not_false_eq_true, Bool.true_or, Bool.true_and]
      · rw [if_pos c1, if_pos c2, if_neg c3, Bool.eq_false_iff.mpr c3]
        simp
    · rw [if_pos c1, if_neg c2, Bool.eq_false_iff.mpr c2]
      simp
  · rw [if_neg c1, Bool.eq_false_iff.mpr c1]
    simp
theorem impl_AreSlips.loop (l : List Slp) (a : Int) (ha : 0 ≤ a ∧ a ≤ 1000) (hm : l.length ≤ 9223372036854775807) : ∀ (d k n : Nat), l.length - n ≤ d → 2 * d + 1 < k → impl_AreSlips.l0 k l a l l.length (n : Int) = some (slB a (prevS l n) (l.drop n)) := by
  intro d
  induction d with
  | zero =>
    intro k n hd hk
    obtain ⟨k, rfl⟩ : ∃ m, k = m + 1 := ⟨k - 1, by omega⟩
    simp only [impl_AreSlips.l0]
    rw [if_neg (by omega), List.drop_of_length_le (by omega)]
    simp [slB]
  | succ d ih =>
    intro k n hd hk
    obtain ⟨k, rfl⟩ : ∃ m, k = m + 2 := ⟨k - 2, by omega⟩
    by_cases h : n < l.length
    · have hw : wrap64 (a - 1) = a - 1 := by unfold wrap64; omega
      simp only [impl_AreSlips.l0]
      rw [if_pos (by omega), if_pos (by omega), if_pos (by omega), rdT63 l n h, hw, List.drop_eq_getElem_cons h]
      have ih' := ih k (n + 1) (by omega) (by omega)
      rw [prevS_next l n h] at ih'
      have e : (if l[n].f0 = 3 then impl_AreSlips.j2 (k + 1) l a n a l l.length n l[n].f0 l[n].f1 l[n].f2 else impl_AreSlips.j2 (k + 1) l a n (a - 1) l l.length n l[n].f0 l[n].f1 l[n].f2) = impl_AreSlips.j2 (k + 1) l a n (mo a l[n].f0) l l.length n l[n].f0 l[n].f1 l[n].f2 := by
        unfold mo
        by_cases c : l[n].f0 = 3
        · rw [if_pos c, if_pos c]
        · rw [if_neg c, if_neg c]
      rw [e]
      simp only [impl_AreSlips.j2, impl_InRange.ok, Option.bind_some]
      rw [prevIfS l n h hm, slStep, w1 h hm, ih']
      simp only [slB]
      cases stepS a (prevS l n) l[n] <;> simp
    · simp only [impl_AreSlips.l0]
      rw [if_neg (by omega), List.drop_of_length_le (by omega)]
      simp [slB]
theorem impl_AreSlips.ok (l : List Slp) (a : Int) (hm : l.length ≤ 9223372036854775807) (k : Nat) (hk : 2 * l.length + 3 < k) : impl_AreSlips.f k l a = some (isSlipsB l a) := by
  obtain ⟨k, rfl⟩ : ∃ m, k = m + 1 := ⟨k - 1, by omega⟩
  unfold impl_AreSlips.f isSlipsB
  by_cases hl : (l.length : Int) > 8
  · have h8 : ¬ l.length ≤ 8 := by omega
    rw [if_pos hl]
    simp [impl_AreSlips.j0, h8]
  · have h8 : l.length ≤ 8 := by omega
    rw [if_neg hl, impl_InRange.ok]
    simp only [Option.bind_some, impl_AreSlips.j0]
    by_cases ha : 0 ≤ a ∧ a ≤ 1000
    · rw [if_neg (by simp [ha])]
      rw [show (0 : Int) = ((0 : Nat) : Int) from rfl, impl_AreSlips.loop l a ha hm l.length k 0 (by omega) (by omega)]
      simp [ha, prevS, h8]
    · rw [if_pos (by simp [ha])]
      simp [ha]
theorem slB_mem (a : Int) : ∀ (l : List Slp) (q : Option Slp), slB a q l = true → ∀ x ∈ l, ∃ p, stepS a p x = true := by
  intro l
  induction l with
  | nil => intro q h x hx; simp at hx
  | cons e l ih =>
    intro q h x hx
    simp only [slB, Bool.and_eq_true] at h
    rcases List.mem_cons.mp hx with rfl | hx
    · exact ⟨q, h.1⟩
    · exact ih _ h.2 x hx
theorem isSlipsB_at {l : List Slp} {a : Int} (h : isSlipsB l a = true) (x : Slp) (hx : x ∈ l) (h1 : x.f0 = 1) : 0 ≤ x.f1 ∧ x.f1 < a := by
  unfold isSlipsB at h
  simp only [Bool.and_eq_true] at h
  obtain ⟨p, hp⟩ := slB_mem a l none h.2.1 x hx
  unfold stepS mo at hp
  simp only [Bool.and_eq_true, decide_eq_true_eq, h1] at hp
  have := hp.2.1
  rw [if_neg (by omega)] at this
  omega
def cntR (ps : List Int) (c : Int) : List Slp → Int
  | [] => c
  | e :: l => cntR ps (if e.f0 = 1 ∧ rd ps e.f1 = e.f2 then c else wrap64 (c + 1)) l
def countReal (ps : List Int) (l : List Slp) : Int := if isSlipsB l ps.length = true then cntR ps 0 l else 0
theorem impl_CountReal.loop (ps : List Int) (l : List Slp) (hm : l.length ≤ 9223372036854775807) (hs : isSlipsB l ps.length = true) : ∀ (d k : Nat) (c : Int) (n : Nat), l.length - n ≤ d → d < k → impl_CountReal.l0 k ps c l l.length (n : Int) = some (cntR ps c (l.drop n)) := by
  intro d
  induction d with
  | zero =>
    intro k c n hd hk
    obtain ⟨k, rfl⟩ : ∃ m, k = m + 1 := ⟨k - 1, by omega⟩
    simp only [impl_CountReal.l0]
    rw [if_neg (by omega), List.drop_of_length_le (by omega)]
    rfl
  | succ d ih =>
    intro k c n hd hk
    obtain ⟨k, rfl⟩ : ∃ m, k = m + 1 := ⟨k - 1, by omega⟩
    by_cases h : n < l.length
    · simp only [impl_CountReal.l0]
      rw [if_pos (by omega), if_pos (by omega), if_pos (by omega), rdT63 l n h, w1 h hm, List.drop_eq_getElem_cons h]
      have ih' := fun c => ih k c (n + 1) (by omega) (by omega)
      simp only [cntR, ih']
      have hx := isSlipsB_at hs l[n] (List.getElem_mem h)
      by_cases c1 : l[n].f0 = 1
      · have := hx c1
        rw [if_pos c1, if_pos this.1, if_pos this.2]
        by_cases c2 : rd ps l[n].f1 = l[n].f2
        · simp only [c1, c2, and_self, if_true]
        · simp only [c1, c2, and_false, if_false]
      · simp only [c1, false_and, if_false]
    · simp only [impl_CountReal.l0]
      rw [if_neg (by omega), List.drop_of_length_le (by omega)]
      rfl
theorem impl_CountReal.ok (ps : List Int) (l : List Slp) (hm : l.length ≤ 9223372036854775807) (k : Nat) (hk : 2 * l.length + 3 < k) : impl_CountReal.f k ps l = some (countReal ps l) := by
  unfold impl_CountReal.f countReal
  rw [impl_AreSlips.ok l _ hm k hk]
  simp only [Option.bind_some]
  by_cases hs : isSlipsB l ps.length = true
  · rw [if_pos hs, if_pos hs]
    exact impl_CountReal.loop ps l hm hs l.length k 0 0 (by omega) (by omega)
  · rw [if_neg hs, if_neg hs]
end Go.Proofs.Ytbhlmeghbfmgiaa.F

namespace Go.Proofs.Ytbhlmeghbfmgiaa.F
open Go.RowKit Go.Proofs.Ytbhlmeghbfmgiaa.Opened Go.Proofs.YtbhlmeghbfmgiaaW.PrintWords Go.Proofs.YtbhlmeghbfmgiaaW.PrintLast Go.Proofs.YtbhlmeghbfmgiaaW.PrintMore
set_option linter.unusedVariables false
set_option linter.unusedSimpArgs false
theorem and255 (x : Int) : 0 ≤ Go.bits .and .i64 x 255 ∧ Go.bits .and .i64 x 255 ≤ 255 := by
  have h : (BitVec.ofInt 64 x &&& BitVec.ofInt 64 255).toNat ≤ 255 := by
    rw [BitVec.toNat_and]
    exact Nat.le_trans Nat.and_le_right (by decide)
  have e : Go.bits .and .i64 x 255 = IntKind.i64.wrap (((BitVec.ofInt 64 x &&& BitVec.ofInt 64 255).toNat : Nat) : Int) := rfl
  rw [e]
  generalize (BitVec.ofInt 64 x &&& BitVec.ofInt 64 255).toNat = n at h
  rw [IntKind.wrap_i64]
  omega
theorem spec_l1New.loop (l : List Int) (hm : l.length ≤ 9223372036854775807) : ∀ (d k n : Nat) (h : Int), l.length - n ≤ d → d < k → ∃ h', spec_l1New.l0 k l h (n : Int) = some (l, 0, h') := by
  intro d
  induction d with
  | zero =>
    intro k n h hd hk
    obtain ⟨k, rfl⟩ : ∃ m, k = m + 1 := ⟨k - 1, by omega⟩
    simp only [spec_l1New.l0]
    rw [if_neg (by omega)]
    exact ⟨h, rfl⟩
  | succ d ih =>
    intro k n h hd hk
    obtain ⟨k, rfl⟩ : ∃ m, k = m + 1 := ⟨k - 1, by omega⟩
    simp only [spec_l1New.l0]
    by_cases c : n < l.length
    · rw [if_pos (by omega)]
      by_cases c2 : (n : Int) < 4000
      · rw [if_pos c2, if_pos (by omega), w1 c hm]
        exact ih k (n + 1) _ (by omega) (by omega)
      · rw [if_neg c2]
        exact ⟨h, rfl⟩
    · rw [if_neg (by omega)]
      exact ⟨h, rfl⟩
theorem spec_l1New.ok (l : List Int) (hm : l.length ≤ 9223372036854775807) (k : Nat) (hk : l.length < k) : ∃ h', spec_l1New.f k l = some (l, 0, h') := by
  unfold spec_l1New.f
  exact spec_l1New.loop l hm l.length k 0 _ (by omega) hk
theorem spec_l1Byte.ok (b : List Int) (i h : Int) (hb : b.length ≤ 1048576) (hi : 0 ≤ i) (hi' : i ≤ b.length) : ∃ x i' h', spec_l1Byte.f b i h = some (x, i', h') ∧ (0 ≤ x ∧ x ≤ 255) ∧ 0 ≤ i' ∧ i' ≤ b.length := by
  unfold spec_l1Byte.f
  by_cases c : i < (b.length : Int)
  · rw [if_pos c, if_pos hi]
    have e : wrap64 (i + 1) = i + 1 := wid (by omega) (by omega)
    exact ⟨_, _, _, rfl, and255 _, by omega, by omega⟩
  · rw [if_neg c]
    exact ⟨_, _, _, rfl, and255 _, by omega, by omega⟩
theorem tmodR (x n : Int) (hx : 0 ≤ x) (hn : 0 < n) : 0 ≤ Int.tmod x n ∧ Int.tmod x n < n := by
  rw [Int.tmod_eq_emod_of_nonneg hx]
  exact ⟨Int.emod_nonneg _ (by omega), Int.emod_lt_of_pos _ hn⟩
theorem spec_l1Below.ok (b : List Int) (i h n : Int) (hb : b.length ≤ 1048576) (hi : 0 ≤ i) (hi' : i ≤ b.length) : ∃ x i' h', spec_l1Below.f b i h n = some (x, i', h') ∧ 0 ≤ x ∧ (x < n ∨ (n ≤ 0 ∧ x = 0)) ∧ 0 ≤ i' ∧ i' ≤ b.length := by
  unfold spec_l1Below.f
  by_cases c : n ≤ 0
  · rw [if_pos c]
    exact ⟨_, _, _, rfl, by omega, by omega, hi, hi'⟩
  · rw [if_neg c]
    obtain ⟨x, i1, h1, e1, bx, j1, j1'⟩ := spec_l1Byte.ok b i h hb hi hi'
    rw [e1]
    simp only [Option.bind_some]
    rw [if_neg (show ¬ n = 0 by omega)]
    by_cases c2 : n ≤ 256
    · rw [if_pos c2]
      have := tmodR x n (by omega) (by omega)
      exact ⟨_, _, _, rfl, by omega, by omega, j1, j1'⟩
    · rw [if_neg c2]
      obtain ⟨y, i2, h2, e2, by_, j2, j2'⟩ := spec_l1Byte.ok b i1 h1 hb j1 j1'
      rw [e2]
      simp only [Option.bind_some]
      obtain ⟨z, i3, h3, e3, bz, j3, j3'⟩ := spec_l1Byte.ok b i2 h2 hb j2 j2'
      rw [e3]
      simp only [Option.bind_some]
      rw [if_neg (show ¬ n = 0 by omega)]
      have e : wrap64 (wrap64 (wrap64 (x * 65536) + wrap64 (y * 256)) + z) = x * 65536 + y * 256 + z := by unfold wrap64; omega
      have := tmodR (x * 65536 + y * 256 + z) n (by omega) (by omega)
      rw [e]
      exact ⟨_, _, _, rfl, by omega, by omega, j3, j3'⟩
theorem spec_l1Below.ok' (b : List Int) (i h n : Int) (hn : 0 < n) (hb : b.length ≤ 1048576) (hi : 0 ≤ i) (hi' : i ≤ b.length) : ∃ x i' h', spec_l1Below.f b i h n = some (x, i', h') ∧ 0 ≤ x ∧ x < n ∧ 0 ≤ i' ∧ i' ≤ b.length := by
  obtain ⟨x, i', h', e, a1, a2, a3, a4⟩ := spec_l1Below.ok b i h n hb hi hi'
  exact ⟨x, i', h', e, a1, by omega, a3, a4⟩
theorem spec_l1Int.ok (b : List Int) (i h : Int) (l : List Int) (hl : 0 < l.length) (hb : b.length ≤ 1048576) (hi : 0 ≤ i) (hi' : i ≤ b.length) : ∃ x i' h', spec_l1Int.f b i h l = some (x, i', h') ∧ x ∈ l ∧ 0 ≤ i' ∧ i' ≤ b.length := by
  unfold spec_l1Int.f
  obtain ⟨x, i', h', e, a1, a2, a3, a4⟩ := spec_l1Below.ok' b i h l.length (by omega) hb hi hi'
  rw [e]
  simp only [Option.bind_some]
  rw [if_pos a1, if_pos a2]
  refine ⟨_, _, _, rfl, ?_, a3, a4⟩
  obtain ⟨m, rfl⟩ := Int.eq_ofNat_of_zero_le a1
  rw [rd_nat l m (by omega)]
  exact List.getElem_mem _
end Go.Proofs.Ytbhlmeghbfmgiaa.F

namespace Go.Proofs.Ytbhlmeghbfmgiaa.Pure
open Go.RowKit Go.Proofs.Ytbhlmeghbfmgiaa.F Go.Proofs.Ytbhlmeghbfmgiaa.Opened Go.Proofs.YtbhlmeghbfmgiaaW.PrintWords Go.Proofs.YtbhlmeghbfmgiaaW.PrintLast Go.Proofs.YtbhlmeghbfmgiaaW.PrintMore
set_option linter.unusedVariables false
set_option linter.unusedSimpArgs false
theorem drawP (b : List Int) (hb : b.length ≤ 1048576) : ∀ (d k : Nat) (acc : List Int) (i h : Int), 0 ≤ i → i ≤ b.length → d < k → acc.length + d ≤ 1000 → ∃ l i' h', spec_l15Pitches.l0 k acc (d : Int) b i h = some (l, i', h') ∧ l.length = acc.length + d ∧ 0 ≤ i' ∧ i' ≤ b.length := by
  intro d
  induction d with
  | zero =>
    intro k acc i h hi hi' hk ha
    obtain ⟨k, rfl⟩ : ∃ m, k = m + 1 := ⟨k - 1, by omega⟩
    simp only [spec_l15Pitches.l0]
    rw [if_neg (by omega)]
    exact ⟨_, _, _, rfl, by omega, hi, hi'⟩
  | succ d ih =>
    intro k acc i h hi hi' hk ha
    obtain ⟨k, rfl⟩ : ∃ m, k = m + 1 := ⟨k - 1, by omega⟩
    simp only [spec_l15Pitches.l0]
    rw [if_pos (by omega)]
    obtain ⟨x1, i1, h1, e1, a1, b1, c1, d1⟩ := spec_l1Below.ok' b i h 6 (by omega) hb hi hi'
    rw [e1]
    simp only [Option.bind_some]
    have e : wrap64 (((d + 1 : Nat) : Int) - 1) = (d : Int) := by unfold wrap64; omega
    rw [if_pos (by omega), e]
    obtain ⟨l, i', h', e4, a4, b4, c4⟩ := ih k (acc ++ [wrap64 (60 + x1)]) i1 h1 c1 d1 (by omega) (by simp; omega)
    refine ⟨l, i', h', e4, ?_, b4, c4⟩
    rw [a4]
    simp
    omega
theorem drawPs (b : List Int) (hb : b.length ≤ 1048576) (k : Nat) (hk : 20 < k) (i h : Int) (hi : 0 ≤ i) (hi' : i ≤ b.length) : ∃ l i' h', spec_l15Pitches.f k b i h 14 = some (l, i', h') ∧ l.length ≤ 13 ∧ 0 ≤ i' ∧ i' ≤ b.length := by
  unfold spec_l15Pitches.f
  obtain ⟨x1, i1, h1, e1, a1, b1, c1, d1⟩ := spec_l1Below.ok' b i h 14 (by omega) hb hi hi'
  rw [e1]
  simp only [Option.bind_some]
  obtain ⟨m, rfl⟩ := Int.eq_ofNat_of_zero_le a1
  obtain ⟨l, i', h', e4, a4, b4, c4⟩ := drawP b hb m k [] i1 h1 c1 d1 (by omega) (by simp; omega)
  exact ⟨l, i', h', e4, by simp at a4; omega, b4, c4⟩
theorem drawS (b : List Int) (n : Int) (hb : b.length ≤ 1048576) : ∀ (d k : Nat) (acc : List Slp) (a i h : Int), 0 ≤ i → i ≤ b.length → 2 * d + 2 < k → a = (d : Int) - 1 → acc.length + d ≤ 1000 → ∃ l i' h', spec_l15Draw.l0 k n acc a b i h = some (l, i', h') ∧ l.length ≤ acc.length + d ∧ 0 ≤ i' ∧ i' ≤ b.length := by
  intro d
  induction d with
  | zero =>
    intro k acc a i h hi hi' hk ha hl
    obtain ⟨k, rfl⟩ : ∃ m, k = m + 1 := ⟨k - 1, by omega⟩
    simp only [spec_l15Draw.l0]
    rw [if_neg (by omega)]
    exact ⟨_, _, _, rfl, by omega, hi, hi'⟩
  | succ d ih =>
    intro k acc a i h hi hi' hk ha hl
    obtain ⟨k, rfl⟩ : ∃ m, k = m + 2 := ⟨k - 2, by omega⟩
    have e : wrap64 (a - 1) = a - 1 := by unfold wrap64; omega
    have step : ∀ (acc' : List Slp) (i h : Int), 0 ≤ i → i ≤ b.length → acc'.length ≤ acc.length + 1 → ∃ l i' h', spec_l15Draw.l0 k n acc' (wrap64 (a - 1)) b i h = some (l, i', h') ∧ l.length ≤ acc.length + (d + 1) ∧ 0 ≤ i' ∧ i' ≤ b.length := by
      intro acc' i h hi hi' hle
      rw [e]
      obtain ⟨l, i', h', e4, a4, b4, c4⟩ := ih k acc' (a - 1) i h hi hi' (by omega) (by omega) (by omega)
      exact ⟨l, i', h', e4, by omega, b4, c4⟩
    have J : ∀ (q : Bool) (i h : Int), 0 ≤ i → i ≤ b.length → ∃ l i' h', spec_l15Draw.j1 (k + 1) n acc a q b i h = some (l, i', h') ∧ l.length ≤ acc.length + (d + 1) ∧ 0 ≤ i' ∧ i' ≤ b.length := by
      intro q i h hi hi'
      simp only [spec_l15Draw.j1]
      by_cases hq : q = true
      · rw [if_pos hq]
        exact step acc i h hi hi' (by omega)
      · rw [if_neg hq]
        obtain ⟨x1, i1, h1, e1, a1, b1, c1, d1⟩ := spec_l1Below.ok' b i h 3 (by omega) hb hi hi'
        rw [e1]
        simp only [Option.bind_some]
        obtain ⟨x2, i2, h2, e2, a2, b2, c2, d2⟩ := spec_l1Below.ok' b i1 h1 6 (by omega) hb c1 d1
        rw [e2]
        simp only [Option.bind_some]
        have hlt : acc.length < 5864062014805 := by omega
        by_cases q1 : a = n
        · rw [if_pos q1]
          rw [if_neg (by decide), if_pos hlt]
          exact step _ i2 h2 c2 d2 (by simp)
        · rw [if_neg q1]
          by_cases q2 : wrap64 (1 + x1) = 2
          · rw [if_pos q2, if_pos hlt]
            exact step _ i2 h2 c2 d2 (by simp)
          · rw [if_neg q2, if_pos hlt]
            exact step _ i2 h2 c2 d2 (by simp)
    simp only [spec_l15Draw.l0, spec_l1Once.f]
    rw [if_pos (by omega)]
    obtain ⟨x1, i1, h1, e1, a1, b1, c1, d1⟩ := spec_l1Below.ok' b i h 4 (by omega) hb hi hi'
    rw [e1]
    simp only [Option.bind_some]
    split
    · exact J _ i1 h1 c1 d1
    · exact J _ i1 h1 c1 d1
theorem drawSs (b : List Int) (n : Nat) (hn : n ≤ 13) (hb : b.length ≤ 1048576) (k : Nat) (hk : 60 < k) (i h : Int) (hi : 0 ≤ i) (hi' : i ≤ b.length) : ∃ l i' h', spec_l15Any.f k b i h (n : Int) = some (l, i', h') ∧ l.length ≤ 14 ∧ 0 ≤ i' ∧ i' ≤ b.length := by
  unfold spec_l15Any.f spec_l15Draw.f
  obtain ⟨l, i2, h2, e2, a2, c2, d2⟩ := drawS b n hb (n + 1) k [] n i h hi hi' (by omega) (by omega) (by simp; omega)
  rw [e2]
  simp only [Option.bind_some]
  simp only [List.length_nil] at a2
  by_cases h0 : (l.length : Int) = 0
  · rw [if_pos h0]
    exact ⟨_, _, _, rfl, by omega, c2, d2⟩
  · rw [if_neg h0]
    obtain ⟨x3, i3, h3, e3, a3, b3, c3, d3⟩ := spec_l1Below.ok' b i2 h2 l.length (by omega) hb c2 d2
    rw [e3]
    simp only [Option.bind_some]
    obtain ⟨x4, i4, h4, e4, a4, b4, c4, d4⟩ := spec_l1Below.ok' b i3 h3 9 (by omega) hb c3 d3
    rw [e4]
    simp only [Option.bind_some]
    by_cases s0 : x4 = 0
    · rw [if_pos s0]
      obtain ⟨x5, i5, h5, e5, a5, c5, d5⟩ := spec_l1Int.ok b i4 h4 [0, 4, 2] (by simp) hb c4 d4
      rw [e5]
      simp only [Option.bind_some]
      rw [if_pos a3, if_pos b3]
      exact ⟨_, _, _, rfl, by simp; omega, c5, d5⟩
    · rw [if_neg s0]
      by_cases s1 : x4 = 1
      · rw [if_pos s1]
        obtain ⟨x5, i5, h5, e5, a5, c5, d5⟩ := spec_l1Int.ok b i4 h4 [-1, (n : Int), wrap64 ((n : Int) + 1)] (by simp) hb c4 d4
        rw [e5]
        simp only [Option.bind_some]
        rw [if_pos a3, if_pos b3]
        exact ⟨_, _, _, rfl, by simp; omega, c5, d5⟩
      · rw [if_neg s1]
        by_cases s2 : x4 = 2
        · rw [if_pos s2]
          obtain ⟨x5, i5, h5, e5, a5, c5, d5⟩ := spec_l1Int.ok b i4 h4 [-1, 127, 128] (by simp) hb c4 d4
          rw [e5]
          simp only [Option.bind_some]
          rw [if_pos a3, if_pos b3]
          exact ⟨_, _, _, rfl, by simp; omega, c5, d5⟩
        · rw [if_neg s2]
          exact ⟨_, _, _, rfl, by omega, c4, d4⟩
def dl (e : Slp) : Int := if e.f0 = 2 then -1 else if e.f0 = 3 then 1 else 0
def dls : List Slp → Int
  | [] => 0
  | e :: l => dl e + dls l
theorem dls_bound : ∀ l : List Slp, -(l.length : Int) ≤ dls l ∧ dls l ≤ l.length
  | [] => by simp [dls]
  | e :: l => by
    have := dls_bound l
    unfold dls dl
    simp only [List.length_cons]
    split
    · omega
    · split <;> omega
theorem errLoop (a : Int) (l : List Slp) (hm : l.length ≤ 100) : ∀ (d k : Nat) (xs : List Int) (n : Nat) (q : Option Slp), slB a q (l.drop n) = true → (∀ p, q = some p → p.f1 ≤ xs.length) → (q = none → a = xs.length) → xs.length + d ≤ 1000 → l.length - n ≤ d → d < k → ∃ ys, impl_ErrBy.l0 k xs l l.length (n : Int) = some (ys, true) ∧ (ys.length : Int) = xs.length + dls (l.drop n) := by
  intro d
  induction d with
  | zero =>
    intro k xs n q hq hp ha hx hd hk
    obtain ⟨k, rfl⟩ : ∃ m, k = m + 1 := ⟨k - 1, by omega⟩
    simp only [impl_ErrBy.l0]
    rw [if_neg (by omega), List.drop_of_length_le (by omega)]
    exact ⟨xs, rfl, by simp [dls]⟩
  | succ d ih =>
    intro k xs n q hq hp ha hx hd hk
    obtain ⟨k, rfl⟩ : ∃ m, k = m + 1 := ⟨k - 1, by omega⟩
    simp only [impl_ErrBy.l0]
    by_cases h : n < l.length
    · rw [List.drop_eq_getElem_cons h] at hq ⊢
      simp only [slB, Bool.and_eq_true] at hq
      obtain ⟨hst, hrest⟩ := hq
      rw [if_pos (by omega), if_pos (by omega), if_pos (by omega), rdT63 l n h, w1 h (by omega)]
      simp only [dls]
      have hin : 0 ≤ l[n].f1 ∧ l[n].f1 ≤ xs.length ∧ (l[n].f0 ≠ 3 → l[n].f1 < xs.length) ∧ 1 ≤ l[n].f0 ∧ l[n].f0 ≤ 3 := by
        unfold stepS mo gtS at hst
        simp only [Bool.and_eq_true, decide_eq_true_eq] at hst
        obtain ⟨h1, h2, h3, h4, h5⟩ := hst
        cases q with
        | none =>
          have := ha rfl
          by_cases c3 : l[n].f0 = 3
          · rw [if_pos c3] at h2
            omega
          · rw [if_neg c3] at h2
            omega
        | some p =>
          have := hp p rfl
          simp only [decide_eq_true_eq] at h5
          omega
      obtain ⟨i0, i1, i2, i3, i4⟩ := hin
      obtain ⟨m, hm1⟩ := Int.eq_ofNat_of_zero_le i0
      by_cases c1 : l[n].f0 = 1
      · have := i2 (by omega)
        rw [if_pos c1, if_pos i0, if_pos this]
        obtain ⟨ys, e1, e2⟩ := ih k (xs.set l[n].f1.toNat l[n].f2) (n + 1) (some l[n]) hrest (fun p hp => by cases hp; rw [List.length_set]; omega) (fun h => by cases h) (by rw [List.length_set]; omega) (by omega) (by omega)
        refine ⟨ys, e1, ?_⟩
        rw [e2, List.length_set]
        unfold dl
        rw [if_neg (by omega), if_neg (by omega)]
        omega
      · rw [if_neg c1]
        by_cases c2 : l[n].f0 = 2
        · have h3 := i2 (by omega)
          rw [if_pos c2]
          unfold delI
          rw [if_pos ⟨i0, h3⟩]
          simp only [Option.bind_some]
          have hlen : (xs.take l[n].f1.toNat ++ xs.drop (l[n].f1.toNat + 1)).length = xs.length - 1 := by
            rw [List.length_append, List.length_take, List.length_drop]
            omega
          obtain ⟨ys, e1, e2⟩ := ih k (xs.take l[n].f1.toNat ++ xs.drop (l[n].f1.toNat + 1)) (n + 1) (some l[n]) hrest (fun p hp => by cases hp; omega) (fun h => by cases h) (by omega) (by omega) (by omega)
          refine ⟨ys, e1, ?_⟩
          rw [e2, hlen]
          unfold dl
          rw [if_pos c2]
          omega
        · rw [if_neg c2]
          unfold insI
          rw [if_pos ⟨⟨i0, i1⟩, by omega⟩]
          simp only [Option.bind_some]
          have hlen : (xs.take l[n].f1.toNat ++ [l[n].f2] ++ xs.drop l[n].f1.toNat).length = xs.length + 1 := by
            rw [List.length_append, List.length_append, List.length_take, List.length_drop]
            simp
            omega
          obtain ⟨ys, e1, e2⟩ := ih k (xs.take l[n].f1.toNat ++ [l[n].f2] ++ xs.drop l[n].f1.toNat) (n + 1) (some l[n]) hrest (fun p hp => by cases hp; omega) (fun h => by cases h) (by omega) (by omega) (by omega)
          refine ⟨ys, e1, ?_⟩
          rw [e2, hlen]
          unfold dl
          rw [if_neg c2, if_pos (by omega)]
          omega
    · rw [if_neg (by omega), List.drop_of_length_le (by omega)]
      exact ⟨xs, rfl, by simp [dls]⟩
theorem sameLoop (x : List Int) (hm : x.length ≤ 100000) : ∀ (d k n : Nat), x.length - n ≤ d → d < k → laws_sameInts.l0 k x x (n : Int) = some true := by
  intro d
  induction d with
  | zero =>
    intro k n hd hk
    obtain ⟨k, rfl⟩ : ∃ m, k = m + 1 := ⟨k - 1, by omega⟩
    simp only [laws_sameInts.l0]
    rw [if_neg (by omega)]
  | succ d ih =>
    intro k n hd hk
    obtain ⟨k, rfl⟩ : ∃ m, k = m + 1 := ⟨k - 1, by omega⟩
    simp only [laws_sameInts.l0]
    by_cases h : n < x.length
    · rw [if_pos (by omega), if_pos (by omega), if_pos (by omega), if_pos trivial, w1 h (by omega)]
      exact ih k (n + 1) (by omega) (by omega)
    · rw [if_neg (by omega)]
theorem sameOk (x : List Int) (hm : x.length ≤ 100000) (k : Nat) (hk : x.length < k) : laws_sameInts.f k x x = some true := by
  unfold laws_sameInts.f
  rw [if_pos rfl]
  exact sameLoop x hm x.length k 0 (by omega) hk
theorem kindOk (a : Int) (h : 1 ≤ a ∧ a ≤ 3) : ∃ s, impl_KindName.f a = some s ∧ ¬ s.toList = ([] : List UInt8) := by
  have h' : a = 1 ∨ a = 2 ∨ a = 3 := by omega
  rcases h' with rfl | rfl | rfl
  · exact ⟨(⟨#[119, 114, 111, 110, 103]⟩ : ByteArray), by first | decide +kernel | (unfold impl_KindName.f impl_InRange.f; decide +kernel) | kernel_rfl, by decide +kernel⟩
  · exact ⟨(⟨#[109, 105, 115, 115, 105, 110, 103]⟩ : ByteArray), by first | decide +kernel | (unfold impl_KindName.f impl_InRange.f; decide +kernel) | kernel_rfl, by decide +kernel⟩
  · exact ⟨(⟨#[101, 120, 116, 114, 97]⟩ : ByteArray), by first | decide +kernel | (unfold impl_KindName.f impl_InRange.f; decide +kernel) | kernel_rfl, by decide +kernel⟩
theorem cntR_le (ps : List Int) : ∀ (l : List Slp) (c : Int), 0 ≤ c → c + l.length ≤ 1000000 → 0 ≤ cntR ps c l ∧ cntR ps c l ≤ c + l.length
  | [], c, h0, h1 => by simp [cntR]; exact h0
  | e :: l, c, h0, h1 => by
    simp only [cntR, List.length_cons] at h1 ⊢
    by_cases q : e.f0 = 1 ∧ rd ps e.f1 = e.f2
    · rw [if_pos q]
      have := cntR_le ps l c h0 (by omega)
      omega
    · rw [if_neg q]
      have e : wrap64 (c + 1) = c + 1 := by unfold wrap64; omega
      rw [e]
      have := cntR_le ps l (c + 1) (by omega) (by omega)
      omega
theorem lawLoop (p : List Int) (l : List Slp) (y : List Int) (hm : l.length ≤ 100) (hp : p.length ≤ 100) (hs : isSlipsB l p.length = true) (hy : (y.length : Int) = p.length + dls l) (h0 : l = [] → y = p) : ∀ (d k : Nat) (c : Int) (n : Nat) (q : Option Slp), slB p.length q (l.drop n) = true → c + dls (l.drop n) = y.length → -1000 ≤ c → c ≤ 1000 + n → l.length - n ≤ d → n ≤ l.length → d + 2 * l.length + y.length + 10 < k → laws_FnSlips.l0 k p l y c (n : Int) = some true := by
  intro d
  have hend : ∀ (k : Nat) (c : Int) (n : Nat), l.length ≤ n → c + dls (l.drop n) = y.length → 2 * l.length + y.length + 9 < k → laws_FnSlips.l0 (k + 1) p l y c (n : Int) = some true := by
    intro k c n hn hc hk
    rw [List.drop_of_length_le hn] at hc
    simp only [dls, Int.add_zero] at hc
    simp only [laws_FnSlips.l0]
    rw [if_neg (by omega), if_pos hc.symm, impl_CountReal.ok p l (by omega) k (by omega)]
    simp only [Option.bind_some]
    have hcr : countReal p l ≤ l.length := by
      unfold countReal
      rw [if_pos hs]
      have := cntR_le p l 0 (by omega) (by omega)
      omega
    rw [if_pos hcr]
    by_cases hl : (l.length : Int) > 0
    · rw [if_pos hl]
    · rw [if_neg hl, h0 (List.eq_nil_of_length_eq_zero (by omega)), sameOk p (by omega) k (by
        have := h0 (List.eq_nil_of_length_eq_zero (by omega))
        rw [this] at hk
        omega)]
      rfl
  induction d with
  | zero =>
    intro k c n q hq hc c0 c1 hd hn hk
    obtain ⟨k, rfl⟩ : ∃ m, k = m + 1 := ⟨k - 1, by omega⟩
    exact hend k c n (by omega) hc (by omega)
  | succ d ih =>
    intro k c n q hq hc c0 c1 hd hn hk
    obtain ⟨k, rfl⟩ : ∃ m, k = m + 1 := ⟨k - 1, by omega⟩
    by_cases h : n < l.length
    · rw [List.drop_eq_getElem_cons h] at hq hc
      simp only [slB, Bool.and_eq_true] at hq
      simp only [dls] at hc
      obtain ⟨hst, hrest⟩ := hq
      have hk1 : 1 ≤ l[n].f0 ∧ l[n].f0 ≤ 3 := by
        unfold stepS at hst
        simp only [Bool.and_eq_true, decide_eq_true_eq] at hst
        exact hst.1
      obtain ⟨s, es, en⟩ := kindOk _ hk1
      have hb := dls_bound (l.drop (n + 1))
      rw [List.length_drop] at hb
      simp only [laws_FnSlips.l0]
      rw [if_pos (by omega), if_pos (by omega), rdT63 l n h, es]
      simp only [Option.bind_some]
      rw [if_neg en, w1 h (by omega)]
      unfold dl at hc
      by_cases c2 : l[n].f0 = 2
      · rw [if_pos c2] at hc ⊢
        rw [if_neg (by omega)]
        have e : wrap64 (c - 1) = c - 1 := by unfold wrap64; omega
        rw [e]
        exact ih k (c - 1) (n + 1) _ hrest (by omega) (by omega) (by omega) (by omega) (by omega) (by omega)
      · rw [if_neg c2] at hc ⊢
        by_cases c3 : l[n].f0 = 3
        · rw [if_pos c3] at hc ⊢
          have e : wrap64 (c + 1) = c + 1 := by unfold wrap64; omega
          rw [e]
          exact ih k (c + 1) (n + 1) _ hrest (by omega) (by omega) (by omega) (by omega) (by omega) (by omega)
        · rw [if_neg c3] at hc ⊢
          exact ih k c (n + 1) _ hrest (by omega) (by omega) (by omega) (by omega) (by omega) (by omega)
    · exact hend k c n (by omega) hc (by omega)
theorem errNil (p : List Int) (k : Nat) (hk : 0 < k) : impl_ErrBy.l0 k p [] 0 0 = some (p, true) := by
  obtain ⟨k, rfl⟩ : ∃ m, k = m + 1 := ⟨k - 1, by omega⟩
  simp only [impl_ErrBy.l0]
  rw [if_neg (by omega)]
theorem pure_FnSlips (b : List Int) (hl : b.length ≤ 9223372036854775807) (hg : ∀ x ∈ b, (Lit.int .u8 x).wf = true) : ∃ k, laws_FnSlips.f k b = some true := by
  by_cases hbig : 1048576 < b.length
  · refine ⟨0, ?_⟩
    unfold laws_FnSlips.f laws_big.f
    simp only [Option.bind_some]
    rw [if_pos (by simp; omega)]
  have hb : b.length ≤ 1048576 := by omega
  obtain ⟨K, hK⟩ : ∃ K : Nat, b.length + 2000 ≤ K := ⟨_, Nat.le_refl _⟩
  refine ⟨K, ?_⟩
  unfold laws_FnSlips.f laws_big.f spec_DrawErrBy.f
  simp only [Option.bind_some]
  rw [if_neg (by simp; omega)]
  obtain ⟨h0, e0⟩ := spec_l1New.ok b hl K (by omega)
  rw [e0]
  simp only [Option.bind_some]
  obtain ⟨p, i1, h1, e1, a1, c1, d1⟩ := drawPs b hb K (by omega) 0 h0 (by omega) (by omega)
  rw [e1]
  simp only [Option.bind_some]
  obtain ⟨l, i2, h2, e2, a2, c2, d2⟩ := drawSs b p.length a1 hb K (by omega) i1 h1 c1 d1
  rw [e2]
  simp only [Option.bind_some]
  have hcl : impl_clone_int.f p = some p := by
    unfold impl_clone_int.f
    simp only [Option.bind_some, List.length_nil, List.nil_append]
    rw [if_pos (by omega)]
  unfold impl_ErrBy.f
  rw [hcl]
  simp only [Option.bind_some]
  rw [impl_AreSlips.ok l p.length (by omega) _ (by omega)]
  simp only [Option.bind_some]
  by_cases hs : isSlipsB l p.length = true
  · rw [if_pos hs]
    have hs' := hs
    unfold isSlipsB at hs'
    simp only [Bool.and_eq_true] at hs'
    obtain ⟨y, e3, e4⟩ := errLoop p.length l (by omega) l.length K p 0 none hs'.2.1 (fun p h => by cases h) (fun _ => rfl) (by omega) (by omega) (by omega)
    simp only [List.drop_zero] at e4
    have e3' : impl_ErrBy.l0 K p l (l.length : Int) 0 = some (y, true) := e3
    rw [e3']
    simp only [Option.bind_some, if_true]
    have hb2 := dls_bound l
    have h00 : l = [] → y = p := by
      rintro rfl
      have e5 := errNil p K (by omega)
      rw [List.length_nil, show ((0 : Nat) : Int) = 0 from rfl, e5] at e3'
      exact (Prod.mk.inj (Option.some.inj e3')).1.symm
    exact lawLoop p l y (by omega) (by omega) hs e4 h00 l.length K p.length 0 none hs'.2.1 (by simp only [List.drop_zero]; omega) (by omega) (by omega) (by omega) (by omega) (by omega)
  · rw [if_neg hs]
    simp only [Option.bind_some, Bool.false_eq_true, if_false]
    rw [sameOk p (by omega) _ (by omega)]
    simp only [Option.bind_some, if_true]
    rw [impl_CountReal.ok p l (by omega) _ (by omega)]
    unfold countReal
    rw [if_neg hs]
    rfl
end Go.Proofs.Ytbhlmeghbfmgiaa.Pure

namespace Go.Proofs.Ytbhlmeghbfmgiaa.fnSlips
open Go.ChangeShapes Go.WideShapes Go.ChangeAt Go.RowKit Go.Joins Go.Proofs.YtbhlmeghbfmgiaaW.PrintWords Go.Proofs.Ytbhlmeghbfmgiaa.Opened Go.Proofs.Ytbhlmeghbfmgiaa.F
open Go.ChangeMaps (open_string shut_string)
set_option linter.unusedVariables false
theorem own : ownKnob Try.prog.godebug = none := by kernel_rfl
theorem laidOut : laidOutB Try.prog = true := by kernel_rfl
set_option maxRecDepth 100000 in
theorem lifted (os : Os) (started : os.Started) (H : Type) (enc : TypeId × Value → H) :
    ReturnsInHanded {} Try.checked os 5 .any (Rows.fnSlipsSpec.pre6 enc Try.prog Try.f5 Rows.fnSlipsRow.domain false) (Rows.fnSlipsSpec.post enc Try.prog Try.f5 false true false false) := by
  refine returnsInHanded_of_change_sized (C := Try.checked) own started (by kernel_rfl) Try.func5
    (ChangeSpec.witness6 (enc := enc) (C := Try.checked) false ⟨#[], #[.slice none 0 0], []⟩ 8 (by kernel_rfl) (by kernel_rfl) (by kernel_rfl) (by kernel_rfl)) ?_
  intro W base args ds gs before hval0 hW hcnd hsz0 _
  have hval : ∀ (j : Nat) t v, Try.f5.params[j]? = some t → args[j]? = some v → Value.okWide Try.prog W .any base t v := hval0
  have hW' := hW
  obtain ⟨p, q, hA0, hV, rfl, hfz, hnd⟩ := hW
  have hA : DataW.TrodAll enc Try.prog W 0 (fun _ => true) true Try.f5.params.toList args.toList ds p := hA0
  rw [Try.params5] at hA hval
  obtain ⟨v0, vs0, d0, ds0, p0, q0, hargs, rfl, rfl, h0, r0⟩ := trodAll_cons hA
  obtain ⟨rfl, rfl, rfl⟩ := trodAll_nil r0
  obtain rfl : args = #[v0] := by cases args; simp_all
  obtain ⟨rfl, rfl⟩ := trodVars_none hV
  have k0 := h0
  have lt0 : ∀ x ∈ p0, x.block < W.heap.size := by obtain ⟨m, hm⟩ := k0; exact DataW.trod_lt m _ _ _ hm
  obtain ⟨b0, len0, cap0, rfl⟩ := okWide_slice Try.underlying22 (hval 0 22 v0 rfl rfl)
  obtain ⟨l0, hl0, hc0, hC0, hg0⟩ := open_nums (k := .u8) Try.underlying22 Try.underlying5 (by kernel_rfl) h0
  subst hl0
  clear hA0 hval0 hsz0
  obtain ⟨kk, hp⟩ := Pure.pure_FnSlips l0 hC0.2.1 hg0
  refine (laws_FnSlips.calls kk _ _ l0 true W hC0 hc0 hp).mono fun e W' ⟨he, bel0⟩ => ?_
  have bel : Below W.heap.size W W' := bel0
  subst he
  exact ⟨_, rfl, _, _, _, [], _, [], hW', trodAll_mk1 (shut_bool Try.underlying4 _), (trodAll_cons_mk (Below.trod laidOut (by kernel_rfl) (of_decide_eq_true (by kernel_rfl)) k0 bel lt0) trodAll_mk0), rfl, bel.frame _, fun h => by cases h⟩
theorem over : Rows.fnSlipsRow.holds Try.pinned (OpenSpec.ofChange Rows.fnSlipsSpec) :=
  OpenClaim.holds_of_wide 5 Try.f5 rfl rfl rfl rfl rfl rfl rfl ⟨rfl, rfl, rfl, rfl, rfl⟩ rfl rfl rfl rfl rfl (by kernel_rfl) Try.func5 (by kernel_rfl)
    (of_decide_eq_true (by kernel_rfl)) (by unfold Func.isWrapper; first | (rw [if_pos (by decide +kernel)]; kernel_rfl) | (rw [if_neg (by decide +kernel)]; exact ⟨rfl, rfl⟩))
    (fun os started H enc _ => lifted os started H enc)
theorem proved : Rows.FnSlipsSaid := over
#print axioms proved
end Go.Proofs.Ytbhlmeghbfmgiaa.fnSlips
namespace Go.Proofs.Ytbhlmeghbfmgiaa
theorem fnSlips_holds : Rows.FnSlipsSaid := fnSlips.proved
end Go.Proofs.Ytbhlmeghbfmgiaa
