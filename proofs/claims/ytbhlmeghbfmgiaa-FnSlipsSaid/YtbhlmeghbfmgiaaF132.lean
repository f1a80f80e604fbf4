-- Written for this claim by the kit's print.py out of the translation, called by wip/tools/fprint.py. Lean checks it.
import Derived.Test.YtbhlmeghbfmgiaaShelf
import Derived.Lib.OwnBridge
import Derived.Sort.OwnSortedInts
import Derived.Shelf.Spec.SlicesInsertGrow
import Derived.Test.YtbhlmeghbfmgiaaF0
import Derived.Test.YtbhlmeghbfmgiaaF124
import Derived.Test.YtbhlmeghbfmgiaaF125
namespace Go.Proofs.Ytbhlmeghbfmgiaa.F
open Go.RowKit Go.Proofs.YtbhlmeghbfmgiaaW.PrintWords Go.Proofs.YtbhlmeghbfmgiaaW.PrintLast Go.Proofs.YtbhlmeghbfmgiaaW.PrintMore
attribute [local go_sem] max2_int min2_int max_two min_two max_three min_three max_four min_four   -- for this text's walks alone
set_option linter.unusedVariables false
set_option linter.unusedSimpArgs false

/-- A number struck out. -/
def delI (xs : List Int) (i : Int) : Option (List Int) := if 0 ≤ i ∧ i < (xs.length : Int) then some (xs.take i.toNat ++ xs.drop (i.toNat + 1)) else none
/-- A number put in. -/
def insI (xs : List Int) (i p : Int) : Option (List Int) := if (0 ≤ i ∧ i ≤ (xs.length : Int)) ∧ xs.length ≤ 1000000000 then some (xs.take i.toNat ++ [p] ++ xs.drop i.toNat) else none
theorem R_mk1 {base go cap : Nat} {W : World} {x : List Int} (cur : Array Value) (hh : W.heap[go]? = some (.cells cur 3 (0, 0))) (hb : base ≤ go) (hc : x.length ≤ cap) (hm : cap ≤ maxLen) (hs : cur.size = cap) (ht : cur.toList.take x.length = x.map (Value.int .i64)) :
    Kd.R (Kd.int .i64) 3 W base (fun _ => True) (.slice (some ⟨go, 0, none⟩) x.length cap) x :=
  Kd.R_of_own (by simpa [encs] using (show W.ownsRow base 3 1 (.slice (some ⟨go, 0, none⟩) x.length cap) x.length (x.map (Value.int .i64)) from ⟨by simp, .inr ⟨go, cap, cur, rfl, hb, hh, hc, hm, by omega, by rw [Nat.mul_one]; exact ht⟩⟩)) (fun _ _ => trivial)
theorem er_delete (base : Nat) (v : Value) (xs : List Int) (i j : Int) (t : List Int) (w : World) (HR : Kd.R (Kd.int .i64) 3 w base (fun _ => True) v xs) (h : delI xs i = some t) (hj : j = wrap64 (i + 1)) :
    Calls Try.prog 107 #[v, .int .i64 i, .int .i64 j] w fun e w' => ∃ v' : Value, e = .returned v' ∧ Kd.R (Kd.int .i64) 3 w' base (fun _ => True) v' t ∧ Below base w w' := by
  have ho := Kd.own_of_R HR
  unfold delI at h
  by_cases hc : 0 ≤ i ∧ i < (xs.length : Int)
  · rw [if_pos hc] at h
    obtain rfl := Option.some.inj h
    obtain ⟨n, rfl⟩ := Int.eq_ofNat_of_zero_le hc.1
    have hn : n < xs.length := by omega
    rcases ho.2 with ⟨rfl, hn0⟩ | ⟨g, cap, cur, rfl, hb, hh, hnc, hcm, hcs, ht⟩
    · omega
    · have hlt : g < w.heap.size := (Array.getElem?_eq_some_iff.1 hh).1
      have hcm' : cap ≤ 9223372036854775807 := by unfold maxLen at hcm; omega
      have ht' : cur.toList.take xs.length = xs.map (Value.int .i64) := by simpa [encs] using ht
      have hj' : j = ((n + 1 : Nat) : Int) := by rw [hj]; unfold wrap64; omega
      subst hj'
      have hcon := Any.slices_Delete_int Try.laysDe g 0 cap n (n + 1) xs w (holds_of_blockI hh ht') hnc hcm' (by omega) (by omega)
      change Calls Try.prog 107 _ _ _ at hcon
      refine hcon.mono fun e w' hw => ?_
      obtain ⟨he, q, rfl⟩ := hw
      rw [Int.toNat_natCast]
      refine ⟨_, he, Kd.R_of_own ?_ (fun _ _ => trivial), Lib.below_putRow (Below.refl base w) hb⟩
      have hl : (xs.take n ++ xs.drop (n + 1)).length = xs.length - 1 := by simp; omega
      have h2 := Lib.ownsRow_putRow (enc := Value.int .i64) (q := q) (k := xs.length - 1) (zs := xs) (ys := xs.take n ++ xs.drop (n + 1) ++ List.replicate (n + 1 - n) 0) (by simpa [encs] using ho) (by simp; omega) (by omega)
      have e1 : (xs.take n ++ xs.drop (n + 1) ++ List.replicate (n + 1 - n) (0 : Int)).take (xs.length - 1) = xs.take n ++ xs.drop (n + 1) := List.take_left' hl
      rw [e1] at h2
      rw [hl, show xs.length - (n + 1 - n) = xs.length - 1 by omega]
      exact h2
  · rw [if_neg hc] at h
    cases h
theorem add_at1 (g o t : Nat) : (⟨g, o, none⟩ : Addr).add t = ⟨g, o + t, none⟩ := by unfold Addr.add; split <;> simp_all
theorem map_one (xs : List Int) : ∀ v ∈ xs.map (Value.int .i64), v.oneCell' = true := by
  intro v hv
  obtain ⟨x, _, rfl⟩ := List.mem_map.1 hv
  rfl
theorem below_rows {B go : Nat} {w : World} (hg : B ≤ go) : ∀ (vs : List Value) (o : Nat) (W : World), Below B w W → Below B w (W.setCells go o vs)
  | [], _, _, h => h
  | v :: vs, o, W, h => below_rows hg vs (o + 1) _ (h.setCell hg v)
theorem er_insert {ok ok2 : Nat → Prop} (base : Nat) (v vv : Value) (xs ys : List Int) (i p : Int) (t : List Int) (w : World) (HR0 : Kd.R (Kd.int .i64) 3 w base ok v xs) (HV0 : Kd.R (Kd.int .i64) 3 w base ok2 vv ys) (hy : ys = [p]) (hne0 : ∀ k, ok2 k → some k ≠ v.ownBlock) (h : insI xs i p = some t) (hbs : base ≤ w.heap.size) :
    Calls Try.prog 108 #[v, .int .i64 i, vv] w fun e w' => ∃ v' : Value, e = .returned v' ∧ Kd.R (Kd.int .i64) 3 w' base (fun _ => True) v' t ∧ Below base w w' := by
  subst hy
  have HR := Kd.R_mono HR0 (ok' := fun _ => True) (fun _ _ => trivial)
  have HV := Kd.R_mono HV0 (ok' := fun _ => True) (fun _ _ => trivial)
  have ho := Kd.own_of_R HR
  have hov := Kd.own_of_R HV
  have hok := HV0.1
  clear HR0 HV0
  unfold insI at h
  by_cases hc : (0 ≤ i ∧ i ≤ (xs.length : Int)) ∧ xs.length ≤ 1000000000
  · rw [if_pos hc] at h
    obtain rfl := Option.some.inj h
    obtain ⟨n, rfl⟩ := Int.eq_ofNat_of_zero_le hc.1.1
    have hn : n ≤ xs.length := by omega
    have hlim := hc.2
    rw [Int.toNat_natCast]
    have hlx : (xs.take n ++ [p] ++ xs.drop n).length = xs.length + 1 := by simp; omega
    rcases hov.2 with ⟨e0, _⟩ | ⟨g2, cap2, cur2, e0, hb2, hh2, hnc2, hcm2, hcs2, ht2⟩
    · have := hov.1
      simp_all
    obtain ⟨gv, rfl⟩ : ∃ gv, gv = g2 := ⟨_, rfl⟩
    subst e0
    have hne : some gv ≠ v.ownBlock := hne0 gv (hok gv rfl)
    have hvlt : gv < w.heap.size := (Array.getElem?_eq_some_iff.1 hh2).1
    have hz2 : 1 ≤ cur2.size := by have h1 : [p].length ≤ cap2 := hnc2; simp at h1; omega
    have hc0 : cur2[0]? = some (.int .i64 p) := by
      have h1 : (cur2.toList.take (1 * 1))[0]? = ([p].map (Value.int .i64))[0]? := by rw [show [p].map (Value.int .i64) = encs (Value.int .i64) [p] from rfl, ← ht2]; rfl
      simpa using h1
    have hvs : ∀ j u, ([p].map (Value.int .i64))[j]? = some u → w.cell? ⟨gv, 0 + j, none⟩ = some u := by
      intro j u hu
      have : j = 0 := by
        have := (List.getElem?_eq_some_iff.1 hu).1
        simpa using this
      subst this
      rw [blk_cell hh2]
      simpa [hc0] using hu
    have hroomV : (xs.length + 1) * 8 ≤ 140737488355328 := by omega
    rcases ho.2 with ⟨rfl, hn0⟩ | ⟨g, cap, cur, rfl, hb, hh, hnc, hcm, hcs, ht⟩
    · obtain rfl : xs = [] := List.eq_nil_of_length_eq_zero hn0
      have hn' : n = 0 := by simpa using hn
      subst hn'
      have hcon := Any2.slices_Insert_int_end_grow Try.laysIn none 0 0 gv 0 1 cap2 [] ([p].map (Value.int .i64)) w (by decide) (Nat.le_refl _) (by decide) (by decide) rfl rfl (fun _ => rfl) (fun a ha => by cases ha) hvs (map_one [p])
      change Calls Try.prog 108 _ _ _ at hcon
      refine hcon.mono fun e w' hw => ?_
      obtain ⟨he, hw⟩ := hw
      have hG : 1 ≤ grownCap w (0 + 1) 0 3 := grownCap_ge w _ _ _
      have hGm : grownCap w (0 + 1) 0 3 ≤ maxLen := grownCap_le_maxLen w _ 0 3 (by unfold maxLen; omega)
      change e = .returned (.slice (some ⟨w.heap.size, 0, none⟩) (0 + 1) (grownCap w (0 + 1) 0 3)) at he
      change w' = w.drew.alloc (.cells (([] ++ [p].map (Value.int .i64)).toArray ++ Builtin.zeroCells (Value.int .i64 0).cells (grownCap w (0 + 1) 0 3 - (0 + 1))) 3) at hw
      generalize grownCap w (0 + 1) 0 3 = G at he hw hG hGm
      refine ⟨_, he, ?_, ?_⟩
      · rw [hw]
        exact R_mk1 (x := [p]) _ (blk_new w.drew _) hbs hG hGm (by simp [Builtin.zeroCells, Value.cells]; omega) (by simp)
      · rw [hw]
        exact (below_drew1 (Below.refl base w)).alloc hbs _
    · have hlt : g < w.heap.size := (Array.getElem?_eq_some_iff.1 hh).1
      have hcm' : cap ≤ 9223372036854775807 := by unfold maxLen at hcm; omega
      have hcs' : cur.size = cap := by omega
      have ht' : cur.toList.take xs.length = xs.map (Value.int .i64) := by simpa [encs] using ht
      have hne' : gv ≠ g := fun e => hne (by simp [Value.ownBlock, e])
      have hcells : ∀ j u, (xs.map (Value.int .i64))[j]? = some u → w.cell? ⟨g, 0 + j, none⟩ = some u := by
        intro j u hu
        have hj : j < xs.length := by have := (List.getElem?_eq_some_iff.1 hu).1; simpa using this
        rw [blk_cell hh, Nat.zero_add, ← Array.getElem?_toList, ← hu, ← ht', List.getElem?_take_of_lt hj]
      have hsome : ∀ q, q < cap → (w.cell? ⟨g, q, none⟩).isSome = true := fun q hq => by rw [blk_cell hh, Array.getElem?_eq_getElem (by omega)]; rfl
      by_cases hroom : xs.length + 1 ≤ cap
      · by_cases hi : n < xs.length
        · have hcon := Any2.slices_Insert_int_shift Try.laysIn g 0 xs.length cap n gv 0 1 cap2 (xs.map (Value.int .i64)) ([p].map (Value.int .i64)) w hi (by decide) hroom hcm' hne' (by simp) rfl hcells (fun j hj => hsome _ (by omega)) (fun j hj => blk_frozen hh _) hvs (map_one xs) (map_one [p]) 3 3 cur2.size cur.size (by unfold World.shape?; rw [hh2]) (by unfold World.shape?; rw [hh]) (by omega) (blk_frozen hh2 _) (blk_frozen hh2 _)
          change Calls Try.prog 108 _ _ _ at hcon
          refine hcon.mono fun e w' hw => ?_
          obtain ⟨he, rfl⟩ := hw
          obtain ⟨cur1, h1, z1, l1⟩ := setCells_row ((xs.map (Value.int .i64)).drop n) (0 + (n + 1)) w.drew cur hh (by simp; omega)
          obtain ⟨cur3, h3, z3, l3⟩ := setCells_row ([p].map (Value.int .i64)) (0 + n) _ cur1 h1 (by rw [z1]; simp; omega)
          have hfin : cur3.toList.take (xs.take n ++ [p] ++ xs.drop n).length = (xs.take n ++ [p] ++ xs.drop n).map (Value.int .i64) := by
            have e0 : cur.toList.take n = (xs.take n).map (Value.int .i64) := by
              rw [List.map_take, ← ht', List.take_take, Nat.min_eq_left (by omega)]
            have hcl : cur.toList.length = cap := by rw [Array.length_toList, hcs']
            have e1 : cur1.toList.take (0 + n) = (xs.take n).map (Value.int .i64) := by
              rw [Nat.zero_add, l1, List.append_assoc, List.take_append_of_le_length (by rw [List.length_take]; omega), List.take_take, Nat.min_eq_left (by omega), e0]
            have e2 : cur1.toList.drop (0 + n + ([p].map (Value.int .i64)).length) = (xs.map (Value.int .i64)).drop n ++ cur.toList.drop (0 + (n + 1) + ((xs.map (Value.int .i64)).drop n).length) := by
              rw [l1, List.append_assoc, List.drop_left' (by rw [List.length_take, hcl]; show min _ _ = 0 + n + 1; omega)]
            rw [l3, e1, e2, List.map_append, List.map_append, ← List.append_assoc, ← List.map_drop]
            refine List.take_left' ?_
            rw [hlx]
            simp
            omega
          have hR := R_mk1 (base := base) (cap := cap) (x := xs.take n ++ [p] ++ xs.drop n) cur3 h3 hb (by rw [hlx]; exact hroom) hcm (by rw [z3, z1, hcs']) hfin
          rw [hlx] at hR
          exact ⟨_, he, hR, below_rows hb _ _ _ (below_rows hb _ _ _ (below_drew1 (Below.refl base w)))⟩
        · have hn' : n = xs.length := by omega
          subst hn'
          have hcon := Any2.slices_Insert_int_end_room Try.laysIn g 0 xs.length cap gv 0 1 cap2 ([p].map (Value.int .i64)) w (by decide) hroom hcm' rfl (fun j hj => hsome _ (by omega)) (fun j hj => blk_frozen hh _) hvs (map_one [p])
          change Calls Try.prog 108 _ _ _ at hcon
          refine hcon.mono fun e w' hw => ?_
          obtain ⟨he, rfl⟩ := hw
          obtain ⟨cur1, h1, z1, l1⟩ := setCells_row ([p].map (Value.int .i64)) (0 + xs.length) w cur hh (by simp; omega)
          have hR := R_mk1 (base := base) (cap := cap) (x := xs.take xs.length ++ [p] ++ xs.drop xs.length) cur1 h1 hb (by rw [hlx]; exact hroom) hcm (by rw [z1, hcs']) (by
            rw [hlx, l1, Nat.zero_add, ht', List.take_length, List.drop_length, List.append_nil, List.map_append]
            exact List.take_left' (by simp))
          rw [hlx] at hR
          exact ⟨_, he, hR, below_rows hb _ _ _ (Below.refl base w)⟩
      · by_cases hi : n < xs.length
        · have hcon := Any2.slices_Insert_int_grow Try.laysIn g 0 xs.length cap n gv 0 1 cap2 (xs.map (Value.int .i64)) ([p].map (Value.int .i64)) w hi (by decide) hnc (by omega) hroomV (by simp) rfl hcells hvs (map_one xs) (map_one [p])
          change Calls Try.prog 108 _ _ _ at hcon
          refine hcon.mono fun e w' hw => ?_
          obtain ⟨he, hw⟩ := hw
          have hG : xs.length + 1 ≤ grownCap w (xs.length + 1) cap 3 := grownCap_ge w _ _ _
          have hGm : grownCap w (xs.length + 1) cap 3 ≤ maxLen := grownCap_le_maxLen w _ cap 3 (by unfold maxLen; omega)
          change e = .returned (.slice (some ⟨w.heap.size, 0, none⟩) (xs.length + 1) (grownCap w (xs.length + 1) cap 3)) at he
          change w' = (((w.alloc (.cells (((xs.map (Value.int .i64)).take n).toArray ++ Builtin.zeroCells (Value.int .i64 0).cells (xs.length + 1 - n) ++ Builtin.zeroCells (Value.int .i64 0).cells (grownCap w (xs.length + 1) cap 3 - (xs.length + 1))) 3)).drew.setCells w.heap.size n ([p].map (Value.int .i64))).drew).setCells w.heap.size (n + 1) ((xs.map (Value.int .i64)).drop n) at hw
          generalize grownCap w (xs.length + 1) cap 3 = G at he hw hG hGm
          obtain ⟨cur0, hcur0⟩ : ∃ c, c = ((xs.map (Value.int .i64)).take n).toArray ++ Builtin.zeroCells (Value.int .i64 0).cells (xs.length + 1 - n) ++ Builtin.zeroCells (Value.int .i64 0).cells (G - (xs.length + 1)) := ⟨_, rfl⟩
          have hz0 : cur0.size = G := by rw [hcur0]; simp [Builtin.zeroCells, Value.cells]; omega
          have ht0 : cur0.toList.take n = (xs.take n).map (Value.int .i64) := by
            rw [hcur0, Array.toList_append, Array.toList_append, List.append_assoc, List.take_left' (by simp; omega), List.map_take]
          rw [← hcur0] at hw
          have h0 : (w.alloc (.cells cur0 3)).drew.heap[w.heap.size]? = some (.cells cur0 3 (0, 0)) := blk_drew (blk_new w _)
          obtain ⟨cur1, h1, z1, l1⟩ := setCells_row ([p].map (Value.int .i64)) n _ cur0 h0 (by simp; omega)
          obtain ⟨cur3, h3, z3, l3⟩ := setCells_row ((xs.map (Value.int .i64)).drop n) (n + 1) _ cur1 (blk_drew h1) (by rw [z1]; simp; omega)
          have hfin : cur3.toList.take (xs.take n ++ [p] ++ xs.drop n).length = (xs.take n ++ [p] ++ xs.drop n).map (Value.int .i64) := by
            have e1 : cur1.toList.take (n + 1) = (xs.take n).map (Value.int .i64) ++ [p].map (Value.int .i64) := by
              rw [l1, ht0]
              exact List.take_left' (by simp; omega)
            rw [l3, e1, List.map_append, List.map_append, ← List.map_drop]
            exact List.take_left' (by rw [hlx]; simp; omega)
          have hR := R_mk1 (base := base) (cap := G) (x := xs.take n ++ [p] ++ xs.drop n) cur3 h3 hbs (by rw [hlx]; exact hG) hGm (by rw [z3, z1, hz0]) hfin
          rw [hlx] at hR
          refine ⟨_, he, by rw [hw]; exact hR, ?_⟩
          rw [hw]
          exact below_rows hbs _ _ _ (below_drew1 (below_rows hbs _ _ _ (below_drew1 ((Below.refl base w).alloc hbs _))))
        · have hn' : n = xs.length := by omega
          subst hn'
          have hcon := Any2.slices_Insert_int_end_grow Try.laysIn (some ⟨g, 0, none⟩) xs.length cap gv 0 1 cap2 (xs.map (Value.int .i64)) ([p].map (Value.int .i64)) w (by decide) hnc (by omega) hroomV (by simp) rfl (fun h => by cases h) (fun a ha j u hu => by cases ha; rw [add_at1]; exact hcells j u hu) hvs (map_one [p])
          change Calls Try.prog 108 _ _ _ at hcon
          refine hcon.mono fun e w' hw => ?_
          obtain ⟨he, hw⟩ := hw
          have hG : xs.length + 1 ≤ grownCap w (xs.length + 1) cap 3 := grownCap_ge w _ _ _
          have hGm : grownCap w (xs.length + 1) cap 3 ≤ maxLen := grownCap_le_maxLen w _ cap 3 (by unfold maxLen; omega)
          change e = .returned (.slice (some ⟨w.heap.size, 0, none⟩) (xs.length + 1) (grownCap w (xs.length + 1) cap 3)) at he
          change w' = w.drew.alloc (.cells ((xs.map (Value.int .i64) ++ [p].map (Value.int .i64)).toArray ++ Builtin.zeroCells (Value.int .i64 0).cells (grownCap w (xs.length + 1) cap 3 - (xs.length + 1))) 3) at hw
          generalize grownCap w (xs.length + 1) cap 3 = G at he hw hG hGm
          have hR := R_mk1 (base := base) (cap := G) (x := xs.take xs.length ++ [p] ++ xs.drop xs.length) (W := w.drew.alloc (.cells ((xs.map (Value.int .i64) ++ [p].map (Value.int .i64)).toArray ++ Builtin.zeroCells (Value.int .i64 0).cells (G - (xs.length + 1))) 3)) _ (blk_new w.drew _) hbs (by rw [hlx]; exact hG) hGm (by simp [Builtin.zeroCells, Value.cells]; omega) (by
            rw [List.take_length, List.drop_length, List.append_nil, List.map_append, Array.toList_append]
            exact List.take_left' (by simp))
          rw [hlx] at hR
          refine ⟨_, he, by rw [hw]; exact hR, ?_⟩
          rw [hw]
          exact (below_drew1 (Below.refl base w)).alloc hbs _
  · rw [if_neg hc] at h
    cases h
/-! ### impl_ErrBy: function 32 -/
def impl_ErrBy.l0 : Nat → List Int → List (S63) → Int → Int → Option (List Int × Bool)
  | 0, _, _, _, _ => none
  | k + 1, x6, x17, x18, x19 => if x19 < x18 then (if 0 ≤ x19 then (if x19 < (x17.length : Int) then (if ((rd_T63 x17 x19).f0) = 1 then (if 0 ≤ ((rd_T63 x17 x19).f1) then (if ((rd_T63 x17 x19).f1) < (x6.length : Int) then (impl_ErrBy.l0 k (x6.set (((rd_T63 x17 x19).f1) : Int).toNat ((rd_T63 x17 x19).f2)) x17 x18 (wrap64 (x19 + 1))) else (none)) else (none)) else (if ((rd_T63 x17 x19).f0) = 2 then ((delI x6 ((rd_T63 x17 x19).f1)).bind fun t1120 => (impl_ErrBy.l0 k t1120 x17 x18 (wrap64 (x19 + 1)))) else ((insI x6 ((rd_T63 x17 x19).f1) ((rd_T63 x17 x19).f2)).bind fun t1126 => (impl_ErrBy.l0 k t1126 x17 x18 (wrap64 (x19 + 1)))))) else (none)) else (none)) else (some (x6, true))
def impl_ErrBy.f (k : Nat) (l0 : List Int) (l1 : List (S63)) : Option (List Int × Bool) := (impl_clone_int.f l0).bind fun t1113 => ((impl_AreSlips.f k l1 (l0.length : Int)).bind fun t1116 => (if t1116 = true then (impl_ErrBy.l0 k t1113 l1 (l1.length : Int) 0) else (some (t1113, false))))
theorem impl_ErrBy.mono_l : ∀ k, (∀ y0 y1 y2 y3, LeO (impl_ErrBy.l0 k y0 y1 y2 y3) (impl_ErrBy.l0 (k + 1) y0 y1 y2 y3))
  | 0 => fun _ _ _ _ r h => by simp [impl_ErrBy.l0] at h
  | k + 1 => by
    have ih0 := impl_ErrBy.mono_l k
    · intro y0 y1 y2 y3
      unfold impl_ErrBy.l0
      repeat' first
      | (with_reducible exact ih0 _ _ _ _)
      | (with_reducible exact impl_AreSlips.mono _ _ _)
      | (with_reducible exact LeO.refl _)
      | (with_reducible exact LeO.none _)
      | (with_reducible refine LeO.ite ?_ ?_)
      | (with_reducible refine LeO.bind ?_ (fun _ => ?_))
      | exact ih0 _ _ _ _
      | exact impl_AreSlips.mono _ _ _
      | exact LeO.none _
      | refine LeO.ite ?_ ?_
      | refine LeO.bind ?_ (fun _ => ?_)
theorem impl_ErrBy.mono : ∀ a0 a1 k, LeO (impl_ErrBy.f k a0 a1) (impl_ErrBy.f (k + 1) a0 a1) := by
  intro a0 a1 k
  have ih0 := impl_ErrBy.mono_l k
  unfold impl_ErrBy.f
  repeat' first
      | (with_reducible exact ih0 _ _ _ _)
      | (with_reducible exact impl_AreSlips.mono _ _ _)
      | (with_reducible exact LeO.refl _)
      | (with_reducible exact LeO.none _)
      | (with_reducible refine LeO.ite ?_ ?_)
      | (with_reducible refine LeO.bind ?_ (fun _ => ?_))
      | exact ih0 _ _ _ _
      | exact impl_AreSlips.mono _ _ _
      | exact LeO.none _
      | refine LeO.ite ?_ ?_
      | refine LeO.bind ?_ (fun _ => ?_)
set_option maxHeartbeats 8000000 in
set_option maxRecDepth 100000 in
theorem impl_ErrBy.calls (k : Nat) (A0 : Option Addr) (c0 : Nat) (l0 : List Int) (A1 : Option Addr) (c1 : Nat) (l1 : List (S63)) (r1 : List Int) (r2 : Bool) (w : World) (hr0 : Kd.C (Kd.int .i64) w A0 l0.length l0) (hc0 : l0.length ≤ c0) (hr1 : Kd.C k63 w A1 l1.length l1) (hc1 : l1.length ≤ c1) (h : impl_ErrBy.f k l0 l1 = some (r1, r2)) :
    Calls Try.prog 32 #[.slice A0 l0.length c0, .slice A1 l1.length c1] w fun e w' => ∃ v0_ : Value, e = .returned (.tuple #[v0_, .bool r2]) ∧ Kd.R (Kd.int .i64) 3 w' w.heap.size (fun _ => True) v0_ r1 ∧ Below w.heap.size w w' := by
  have hu63 := Try.underlying63
  have HR0 := Aside0.mk hr0
  have HC0 := Aside0.mk hc0
  clear hr0 hc0
  have HR1 := Aside0.mk hr1
  have HC1 := Aside0.mk hc1
  clear hr1 hc1
  have HB := Aside0.mk (Below.refl w.heap.size w)
  have H : ((impl_clone_int.f l0).bind fun t1113 => ((impl_AreSlips.f k l1 (l0.length : Int)).bind fun t1116 => (if t1116 = true then (impl_ErrBy.l0 k t1113 l1 (l1.length : Int) 0) else (some (t1113, false))))) = some (r1, r2) := h
  clear h
  replace H := Option.bind_eq_some_iff.mp H
  obtain ⟨t1113, A30, H⟩ := H
  replace H : ((impl_AreSlips.f k l1 (l0.length : Int)).bind fun t1116 => (if t1116 = true then (impl_ErrBy.l0 k t1113 l1 (l1.length : Int) 0) else (some (t1113, false)))) = some (r1, r2) := H
  have A3 := Aside0.mk A30
  clear A30
  replace H := Option.bind_eq_some_iff.mp H
  obtain ⟨t1116, A40, H⟩ := H
  replace H : (if t1116 = true then (impl_ErrBy.l0 k t1113 l1 (l1.length : Int) 0) else (some (t1113, false))) = some (r1, r2) := H
  have A4 := Aside0.mk A40
  clear A40
  by_cases c5 : t1116 = true
  · subst c5
    have H1 : (impl_ErrBy.l0 k t1113 l1 (l1.length : Int) 0) = some (r1, r2) := by rw [if_pos rfl] at H; exact H
    clear H
    have H := H1
    clear H1
    have H' := Aside0.mk H
    clear H
    go_enter Try.func32, Try.ntmps32
    go_wp2_with (first | ((with_reducible refine gate_callee (f := 105) rfl ?_); refine goesL_ (some 10) rfl rfl Try.func105 (by kernel_rfl) rfl #[.slice A0 l0.length c0] rfl (by (try simp only [List.map_toArray, List.map_cons, List.map_nil]); first | done | rfl | (simp only [List.length_drop, List.length_take]; rfl)) ?_; (with_reducible refine (impl_clone_int.calls _ _ l0 t1113 _ ?side1 ?side2 A3.out).mono ?_); (case side1 => repeat (first | exact HR0.out | (with_reducible refine Kd.C_alloc ?_ _) | (with_reducible refine Kd.C_drewN ?_ _) | (with_reducible refine Kd.C_drew ?_))); (case side2 => exact HC0.out); rintro e w6 ⟨v1114, rfl, ho0, hb⟩; refine ⟨_, rfl, ?_⟩; have n0_ := Aside0.mk (Kd.R_lower ho0 (below_size (by repeat (first | (with_reducible first | exact HB.out | apply below_alloc | apply pw_below_drewN | apply below_drew1) | exact HB.out)))); have n1_ := Aside0.mk (below_step (by repeat (first | (with_reducible first | exact HB.out | apply below_alloc | apply pw_below_drewN | apply below_drew1) | exact HB.out)) hb); clear HB; have HO1115 := n0_; have HB := n1_; clear n0_ n1_; (try clear hb); (try clear hb2); (try clear hk); (try clear hi); (try clear ho0)) | ((with_reducible refine gate_callee (f := 106) rfl ?_); refine goesL_ (some 14) rfl rfl Try.func106 (by kernel_rfl) rfl #[.slice A1 l1.length c1, .int .i64 (l0.length : Int)] rfl (by (try simp only [List.map_toArray, List.map_cons, List.map_nil]); first | done | rfl | (simp only [List.length_drop, List.length_take]; rfl)) ?_; (with_reducible refine (impl_AreSlips.calls k _ _ l1 (l0.length : Int) true _ ?side1 ?side2 A4.out).mono ?_); (case side1 => repeat (first | exact (Kd.C_below HR1.out HB.out) | (with_reducible refine Kd.C_alloc ?_ _) | (with_reducible refine Kd.C_drewN ?_ _) | (with_reducible refine Kd.C_drew ?_))); (case side2 => exact HC1.out); rintro e w7 ⟨rfl, hb⟩; refine ⟨_, rfl, ?_⟩; have n0_ := Aside0.mk (Kd.R_below (by (with_reducible repeat (first | apply Kd.R_alloc | apply Kd.R_drewN | apply Kd.R_drew)); exact HO1115.out) hb); have n1_ := Aside0.mk (below_step (by repeat (first | (with_reducible first | exact HB.out | apply below_alloc | apply pw_below_drewN | apply below_drew1) | exact HB.out)) hb); clear HO1115; clear HB; have HO1115 := n0_; have HB := n1_; clear n0_ n1_; (try clear hb); (try clear hb2); (try clear hk); (try clear hi)))
    go_loopg [6, 19] k (fun kq v6 v19 w' => ∃ (x6_1 : List Int) (x19_1 : Int), v19 = .int .i64 x19_1 ∧ Aside0 (impl_ErrBy.l0 kq x6_1 l1 (l1.length : Int) x19_1 = some (r1, r2)) ∧ Aside0 (kq ≤ k) ∧ Aside0 (Kd.R (Kd.int .i64) 3 w' w.heap.size (fun _ => True) v6 x6_1) ∧ Aside0 (Below w.heap.size w w'))
    case atStart => exact ⟨(t1113), (0), (by first | rfl | (simp; done) | (simp [*]; done)), H', ⟨Nat.le_refl _⟩, ⟨by (with_reducible repeat (first | apply Kd.R_alloc | apply Kd.R_drewN | apply Kd.R_drew)); exact HO1115.out⟩, ⟨by repeat (first | (with_reducible first | exact HB.out | apply below_alloc | apply pw_below_drewN | apply below_drew1) | exact HB.out)⟩⟩
    case round =>
      clear H'
      try clear c1
      try clear p2
      try clear c3
      try clear c5
      obtain ⟨x6_1, x19_1, rfl, HA, HK1, HO_6, HB⟩ := hrel
      cases gk with
      | zero => exact absurd HA.out (by simp [impl_ErrBy.l0])
      | succ k1 =>
        have H := HA.out
        clear HA
        simp only [impl_ErrBy.l0] at H
        by_cases c8 : x19_1 < (l1.length : Int)
        · rw [if_pos c8] at H
          have c8b0 : decide (x19_1 < (l1.length : Int)) = true := decide_eq_true c8
          clear c8
          by_cases c9 : 0 ≤ x19_1
          · rw [if_pos c9] at H
            have c9b0 : decide (0 ≤ x19_1) = true := decide_eq_true c9
            clear c9
            by_cases c10 : x19_1 < (l1.length : Int)
            · rw [if_pos c10] at H
              have c10b0 : decide (x19_1 < (l1.length : Int)) = true := decide_eq_true c10
              clear c10
              by_cases c11 : ((rd_T63 l1 x19_1).f0) = 1
              · rw [if_pos c11] at H
                have c11b0 : (((rd_T63 l1 x19_1).f0) == 1) = true := beq_iff_eq.mpr c11
                have c11b1 : (((rd_T63 l1 x19_1).f0) != 1) = false := bne_eq_false_iff_eq.mpr c11
                clear c11
                by_cases c12 : 0 ≤ ((rd_T63 l1 x19_1).f1)
                · rw [if_pos c12] at H
                  have c12b0 : decide (0 ≤ ((rd_T63 l1 x19_1).f1)) = true := decide_eq_true c12
                  clear c12
                  by_cases c13 : ((rd_T63 l1 x19_1).f1) < (x6_1.length : Int)
                  · rw [if_pos c13] at H
                    have c13b0 : decide (((rd_T63 l1 x19_1).f1) < (x6_1.length : Int)) = true := decide_eq_true c13
                    clear c13
                    obtain ⟨y1119, hy1119⟩ : ∃ y_ : List Int, y_ = (x6_1.set (((rd_T63 l1 x19_1).f1) : Int).toNat ((rd_T63 l1 x19_1).f2)) := ⟨_, rfl⟩
                    replace H : (impl_ErrBy.l0 k1 y1119 l1 (l1.length : Int) (wrap64 (x19_1 + 1))) = some (r1, r2) := by first | (rw [hy1119]; with_reducible exact H) | (have H2_ := (Option.bind_some _ _).symm.trans H; rw [hy1119]; with_reducible exact H2_) | (have H2_ := (Option.bind_some _ _).symm.trans H; with_reducible exact H2_) | with_reducible exact H | (rw [hy1119]; exact H) | exact H
                    have Ny1119 := Aside0.mk hy1119
                    clear hy1119
                    have H' := Aside0.mk H
                    clear H
                    have p1117 : 0 ≤ (x19_1 : Int) := of_decide_eq_true (by first | (with_reducible assumption) | assumption)
                    have q1117 : x19_1 < (l1.length : Int) := of_decide_eq_true (by first | (with_reducible assumption) | assumption)
                    obtain ⟨ad1117, e1117, hx1117_0, hx1117_1, hx1117_2⟩ := at_T63 HR1.out x19_1 p1117 q1117
                    cases e1117
                    replace hx1117_0 := (HB.out.cell (World.block_lt_of_cell? w _ hx1117_0)).trans hx1117_0
                    replace hx1117_1 := (HB.out.cell (World.block_lt_of_cell? w _ hx1117_1)).trans hx1117_1
                    replace hx1117_2 := (HB.out.cell (World.block_lt_of_cell? w _ hx1117_2)).trans hx1117_2
                    replace p1117 := eq_true p1117
                    replace q1117 := eq_true q1117
                    go_wp2_with (first | ((with_reducible refine gate_dst (N := 8) rfl ?_); refine box_event ?hg (N := 8) ?hd (cs := #[.int .i64 0, .int .i64 0, .int .i64 0]) (t := 63) ?hr ?_; (case hd => rfl); (case hg => rfl); (case hr => first | (go_simp; done) | (go_simp; rfl)); intro gb1118 hg w15 hbox hb; have n0_ := Aside0.mk (Kd.R_below (by (with_reducible repeat (first | apply Kd.R_alloc | apply Kd.R_drewN | apply Kd.R_drew)); exact HO_6.out) hb); have n1_ := Aside0.mk (below_step (by repeat (first | (with_reducible first | exact HB.out | apply below_alloc | apply pw_below_drewN | apply below_drew1) | exact HB.out)) hb); have n2_ := Aside0.mk (hbox); have n3_ := Aside0.mk ((by rw [hg]; exact (below_size (by repeat (first | (with_reducible first | exact HB.out | apply below_alloc | apply pw_below_drewN | apply below_drew1) | exact HB.out))) : w.heap.size ≤ gb1118)); have n4_ := Aside0.mk ((by rw [hg]; exact (below_size (by repeat (first | (with_reducible first | exact HB.out | apply below_alloc | apply pw_below_drewN | apply below_drew1) | exact HB.out))) : w.heap.size ≤ gb1118)); clear HO_6; clear HB; have HO_6 := n0_; have HB := n1_; have BK1118 := n2_; have GW1118 := n3_; have GE1118 := n4_; clear n0_ n1_ n2_ n3_ n4_; clear hb hbox hg; have hcz16_0 : w15.cell? ⟨gb1118, 0, none⟩ = some (.int .i64 0) := (blk_cell BK1118.out 0).trans rfl; have hcz16_1 : w15.cell? ⟨gb1118, 1, none⟩ = some (.int .i64 0) := (blk_cell BK1118.out 1).trans rfl; have hcz16_2 : w15.cell? ⟨gb1118, 2, none⟩ = some (.int .i64 0) := (blk_cell BK1118.out 2).trans rfl; have hfz16_0 := blk_frozen BK1118.out 0; have hfz16_1 := blk_frozen BK1118.out 1; have hfz16_2 := blk_frozen BK1118.out 2) | ((with_reducible refine gate_store (t := 63) (p := 8) rfl ?_); refine store_event (t := 63) (p := 8) (v := ?vo_w17) (w1 := (((w15.setCell ⟨gb1118, 0, none⟩ (.int .i64 ((rd_T63 l1 x19_1).f0))).setCell ⟨gb1118, 1, none⟩ (.int .i64 ((rd_T63 l1 x19_1).f1))).setCell ⟨gb1118, 2, none⟩ (.int .i64 ((rd_T63 l1 x19_1).f2)))) ?hg ?ho ?hn ?hr ?_; (case ho => rfl); (case hg => rfl); (case hn => rfl); (case hr => first | (go_simp; done) | (go_simp; rfl)); intro w17 hw; have n0_ : Aside0 (Kd.R (Kd.int .i64) 3 w17 w.heap.size (fun _ => True) u6 x6_1) := ⟨(by rw [hw]; exact (by (with_reducible repeat (first | apply Kd.R_alloc | apply Kd.R_drewN | apply Kd.R_drew)); exact Kd.R_mono (Kd.R_far (p := ⟨gb1118, 2, none⟩) (Kd.R_far (p := ⟨gb1118, 1, none⟩) (Kd.R_far (p := ⟨gb1118, 0, none⟩) (Kd.R_types HO_6.out BK1118.out (by decide)) (fun _ hk => hk.2) (.int .i64 ((rd_T63 l1 x19_1).f0))) (fun _ hk => hk.2) (.int .i64 ((rd_T63 l1 x19_1).f1))) (fun _ hk => hk.2) (.int .i64 ((rd_T63 l1 x19_1).f2))) (fun _ hk => trivial)))⟩; have n1_ : Aside0 (w17.heap[gb1118]? = some (.cells #[.int .i64 ((rd_T63 l1 x19_1).f0), .int .i64 ((rd_T63 l1 x19_1).f1), .int .i64 ((rd_T63 l1 x19_1).f2)] 63 (0, 0))) := ⟨(by rw [hw]; exact (by (with_reducible repeat (first | refine blk_drewN ?_ _ | refine blk_drew ?_ | refine blk_alloc ?_ _)); refine blk_put (cs := #[.int .i64 ((rd_T63 l1 x19_1).f0), .int .i64 ((rd_T63 l1 x19_1).f1), .int .i64 0]) ?_ 2 _ rfl; (with_reducible repeat (first | refine blk_drewN ?_ _ | refine blk_drew ?_ | refine blk_alloc ?_ _)); refine blk_put (cs := #[.int .i64 ((rd_T63 l1 x19_1).f0), .int .i64 0, .int .i64 0]) ?_ 1 _ rfl; (with_reducible repeat (first | refine blk_drewN ?_ _ | refine blk_drew ?_ | refine blk_alloc ?_ _)); refine blk_put (cs := #[.int .i64 0, .int .i64 0, .int .i64 0]) ?_ 0 _ rfl; (with_reducible repeat (first | refine blk_drewN ?_ _ | refine blk_drew ?_ | refine blk_alloc ?_ _)); exact BK1118.out))⟩; have n2_ : Aside0 (Below w.heap.size w w17) := ⟨(by rw [hw]; exact (by repeat (first | (with_reducible first | exact HB.out | apply below_alloc | apply pw_below_drewN | apply below_drew1 | refine below_set ?_ GE1118.out) | exact HB.out)))⟩; clear hw; clear HO_6; clear BK1118; clear HB; have HO_6 := n0_; have BK1118 := n1_; have HB := n2_; clear n0_ n1_ n2_; have hcz18_0 : w17.cell? ⟨gb1118, 0, none⟩ = some (.int .i64 ((rd_T63 l1 x19_1).f0)) := (blk_cell BK1118.out 0).trans rfl; have hcz18_1 : w17.cell? ⟨gb1118, 1, none⟩ = some (.int .i64 ((rd_T63 l1 x19_1).f1)) := (blk_cell BK1118.out 1).trans rfl; have hcz18_2 : w17.cell? ⟨gb1118, 2, none⟩ = some (.int .i64 ((rd_T63 l1 x19_1).f2)) := (blk_cell BK1118.out 2).trans rfl; have hfz18_0 := blk_frozen BK1118.out 0; have hfz18_1 := blk_frozen BK1118.out 1; have hfz18_2 := blk_frozen BK1118.out 2; have p14 : 0 ≤ (((rd_T63 l1 x19_1).f1) : Int) := of_decide_eq_true (by first | (with_reducible assumption) | assumption); have q14 : (((rd_T63 l1 x19_1).f1) : Int) < ((x6_1.length : Int) : Int) := of_decide_eq_true (by first | (with_reducible assumption) | assumption); obtain ⟨go14, co14, eo14, gb14, gl14, cl14, HG14⟩ := Kd.R_form HO_6.out (by omega); (first | cases eo14 | (injection eo14 with ea_ en_ ec_; (first | subst ea_ | (injection ea_ with ea_; subst ea_)); subst ec_; clear en_)); have GB14 := Aside0.mk gb14; have GG14 := Aside0.mk HG14; clear gb14 gl14 HG14; obtain ⟨hx14_0, hf14_0⟩ := Kd.R_celln 0 HO_6.out (((rd_T63 l1 x19_1).f1) : Int) p14 q14; replace p14 := eq_true p14; replace q14 := eq_true q14; obtain ⟨hy19_, hz19_⟩ := Kd.R_celln 0 HO_6.out (((rd_T63 l1 x19_1).f1) : Int) (of_decide_eq_true (by first | (with_reducible assumption) | assumption)) (of_decide_eq_true (by first | (with_reducible assumption) | assumption)); have HP19 := Kd.R_putg HO_6.out (((rd_T63 l1 x19_1).f1) : Int) ((rd_T63 l1 x19_1).f2)) | ((with_reducible refine gate_store (t := 3) (p := 39) rfl ?_); refine store_event (t := 3) (p := 39) (v := ?vo_w20) (w1 := (w17.setCell ⟨go14, (((rd_T63 l1 x19_1).f1) : Int).toNat, none⟩ (.int .i64 ((rd_T63 l1 x19_1).f2)))) ?hg ?ho ?hn ?hr ?_; (case ho => rfl); (case hg => rfl); (case hn => rfl); (case hr => first | (go_simp; done) | (go_simp; rfl)); intro w20 hw; have hg : w17.grownBy w20 (some go14) := (by rw [hw]; exact HP19.2); have hp_ : Kd.R (Kd.int .i64) 3 w20 w.heap.size (fun _ => True) (.slice (some ⟨go14, 0, none⟩) x6_1.length co14) y1119 := (by rw [hw, Ny1119.out]; exact HP19.1); clear HP19; have n0_ := Aside0.mk (hp_); have n1_ := Aside0.mk (blk_grown (g := gb1118) (o := .cells #[.int .i64 ((rd_T63 l1 x19_1).f0), .int .i64 ((rd_T63 l1 x19_1).f1), .int .i64 ((rd_T63 l1 x19_1).f2)] 63 (0, 0)) (by (with_reducible repeat (first | refine blk_drewN ?_ _ | refine blk_drew ?_ | refine blk_alloc ?_ _)); exact BK1118.out) hg (Kd.R_ne HO_6.out BK1118.out (by decide))); have n2_ := Aside0.mk ((by rw [hw]; exact below_set (HB.out) GB14.out : Below w.heap.size w w20)); clear HO_6; clear BK1118; clear HB; have HO_6 := n0_; have BK1118 := n1_; have HB := n2_; clear n0_ n1_ n2_; clear hg hw hp_))
                    go_roundg k1
                    case measure => have := HK1.out; omega
                    case rel => exact ⟨(y1119), (wrap64 (x19_1 + 1)), (by first | rfl | (simp; done) | (simp [*]; done)), H', ⟨by have := HK1.out; omega⟩, ⟨by (with_reducible repeat (first | apply Kd.R_alloc | apply Kd.R_drewN | apply Kd.R_drew)); exact HO_6.out⟩, ⟨by repeat (first | (with_reducible first | exact HB.out | apply below_alloc | apply pw_below_drewN | apply below_drew1 | refine below_set ?_ GE1118.out) | exact HB.out)⟩⟩
                  · rw [if_neg c13] at H
                    exact absurd H (by simp)
                · rw [if_neg c12] at H
                  exact absurd H (by simp)
              · rw [if_neg c11] at H
                have c11b0 : (((rd_T63 l1 x19_1).f0) == 1) = false := beq_eq_false_iff_ne.mpr c11
                have c11b1 : (((rd_T63 l1 x19_1).f0) != 1) = true := bne_iff_ne.mpr c11
                by_cases c21 : ((rd_T63 l1 x19_1).f0) = 2
                · rw [if_pos c21] at H
                  have c21b0 : (((rd_T63 l1 x19_1).f0) == 2) = true := beq_iff_eq.mpr c21
                  have c21b1 : (((rd_T63 l1 x19_1).f0) != 2) = false := bne_eq_false_iff_eq.mpr c21
                  clear c21
                  replace H := Option.bind_eq_some_iff.mp H
                  obtain ⟨t1120, A220, H⟩ := H
                  replace H : (impl_ErrBy.l0 k1 t1120 l1 (l1.length : Int) (wrap64 (x19_1 + 1))) = some (r1, r2) := H
                  have A22 := Aside0.mk A220
                  clear A220
                  have H' := Aside0.mk H
                  clear H
                  have p1117 : 0 ≤ (x19_1 : Int) := of_decide_eq_true (by first | (with_reducible assumption) | assumption)
                  have q1117 : x19_1 < (l1.length : Int) := of_decide_eq_true (by first | (with_reducible assumption) | assumption)
                  obtain ⟨ad1117, e1117, hx1117_0, hx1117_1, hx1117_2⟩ := at_T63 HR1.out x19_1 p1117 q1117
                  cases e1117
                  replace hx1117_0 := (HB.out.cell (World.block_lt_of_cell? w _ hx1117_0)).trans hx1117_0
                  replace hx1117_1 := (HB.out.cell (World.block_lt_of_cell? w _ hx1117_1)).trans hx1117_1
                  replace hx1117_2 := (HB.out.cell (World.block_lt_of_cell? w _ hx1117_2)).trans hx1117_2
                  replace p1117 := eq_true p1117
                  replace q1117 := eq_true q1117
                  go_wp2_with (first | ((with_reducible refine gate_dst (N := 8) rfl ?_); refine box_event ?hg (N := 8) ?hd (cs := #[.int .i64 0, .int .i64 0, .int .i64 0]) (t := 63) ?hr ?_; (case hd => rfl); (case hg => rfl); (case hr => first | (go_simp; done) | (go_simp; rfl)); intro gb1118 hg w23 hbox hb; have n0_ := Aside0.mk (Kd.R_below (by (with_reducible repeat (first | apply Kd.R_alloc | apply Kd.R_drewN | apply Kd.R_drew)); exact HO_6.out) hb); have n1_ := Aside0.mk (below_step (by repeat (first | (with_reducible first | exact HB.out | apply below_alloc | apply pw_below_drewN | apply below_drew1) | exact HB.out)) hb); have n2_ := Aside0.mk (hbox); have n3_ := Aside0.mk ((by rw [hg]; exact (below_size (by repeat (first | (with_reducible first | exact HB.out | apply below_alloc | apply pw_below_drewN | apply below_drew1) | exact HB.out))) : w.heap.size ≤ gb1118)); have n4_ := Aside0.mk ((by rw [hg]; exact (below_size (by repeat (first | (with_reducible first | exact HB.out | apply below_alloc | apply pw_below_drewN | apply below_drew1) | exact HB.out))) : w.heap.size ≤ gb1118)); clear HO_6; clear HB; have HO_6 := n0_; have HB := n1_; have BK1118 := n2_; have GW1118 := n3_; have GE1118 := n4_; clear n0_ n1_ n2_ n3_ n4_; clear hb hbox hg; have hcz24_0 : w23.cell? ⟨gb1118, 0, none⟩ = some (.int .i64 0) := (blk_cell BK1118.out 0).trans rfl; have hcz24_1 : w23.cell? ⟨gb1118, 1, none⟩ = some (.int .i64 0) := (blk_cell BK1118.out 1).trans rfl; have hcz24_2 : w23.cell? ⟨gb1118, 2, none⟩ = some (.int .i64 0) := (blk_cell BK1118.out 2).trans rfl; have hfz24_0 := blk_frozen BK1118.out 0; have hfz24_1 := blk_frozen BK1118.out 1; have hfz24_2 := blk_frozen BK1118.out 2; obtain ⟨Ao25, co25, eo25⟩ := Kd.R_slice HO_6.out; subst eo25) | (go_at_call 107; refine Calls.mono (er_delete w.heap.size _ x6_1 _ _ t1120 _ ?side1 A22.out ?side2) ?_; (case side1 => exact (by (with_reducible repeat (first | apply Kd.R_alloc | apply Kd.R_drewN | apply Kd.R_drew)); exact (Kd.R_mono (Kd.R_far (p := ⟨gb1118, 2, none⟩) (Kd.R_far (p := ⟨gb1118, 1, none⟩) (Kd.R_far (p := ⟨gb1118, 0, none⟩) (Kd.R_types HO_6.out BK1118.out (by decide)) (fun _ hk => hk.2) (.int .i64 ((rd_T63 l1 x19_1).f0))) (fun _ hk => hk.2) (.int .i64 ((rd_T63 l1 x19_1).f1))) (fun _ hk => hk.2) (.int .i64 ((rd_T63 l1 x19_1).f2))) (fun _ h_ => h_.1)))); (case side2 => first | rfl | exact i64_w _ | simp only [i64_w]); rintro e w26 ⟨v1121, rfl, ho0, hb⟩; have n0_ := Aside0.mk ho0; have n1_ := Aside0.mk (Below.trans (by repeat (first | (with_reducible first | exact HB.out | apply below_alloc | apply pw_below_drewN | apply below_drew1 | refine below_set ?_ GE1118.out) | exact HB.out)) hb); clear HB; have HO1122 := n0_; have HB := n1_; clear n0_ n1_; (try clear hb); (try clear ho0)))
                  go_roundg k1
                  case measure => have := HK1.out; omega
                  case rel => exact ⟨(t1120), (wrap64 (x19_1 + 1)), (by first | rfl | (simp; done) | (simp [*]; done)), H', ⟨by have := HK1.out; omega⟩, ⟨by (with_reducible repeat (first | apply Kd.R_alloc | apply Kd.R_drewN | apply Kd.R_drew)); exact Kd.R_mono HO1122.out (fun _ hk => trivial)⟩, ⟨by repeat (first | (with_reducible first | exact HB.out | apply below_alloc | apply pw_below_drewN | apply below_drew1 | refine below_set ?_ GE1118.out) | exact HB.out)⟩⟩
                · rw [if_neg c21] at H
                  have c21b0 : (((rd_T63 l1 x19_1).f0) == 2) = false := beq_eq_false_iff_ne.mpr c21
                  have c21b1 : (((rd_T63 l1 x19_1).f0) != 2) = true := bne_iff_ne.mpr c21
                  obtain ⟨y1123, hy1123⟩ : ∃ y_ : List Int, y_ = (([(rd_T63 l1 x19_1).f2] : List Int)) := ⟨_, rfl⟩
                  replace H : ((insI x6_1 ((rd_T63 l1 x19_1).f1) ((rd_T63 l1 x19_1).f2)).bind fun t1126 => (impl_ErrBy.l0 k1 t1126 l1 (l1.length : Int) (wrap64 (x19_1 + 1)))) = some (r1, r2) := by first | (rw [hy1123]; with_reducible exact H) | (have H2_ := (Option.bind_some _ _).symm.trans H; rw [hy1123]; with_reducible exact H2_) | (have H2_ := (Option.bind_some _ _).symm.trans H; with_reducible exact H2_) | with_reducible exact H | (rw [hy1123]; exact H) | exact H
                  have Ny1123 := Aside0.mk hy1123
                  clear hy1123
                  replace H := Option.bind_eq_some_iff.mp H
                  obtain ⟨t1126, A270, H⟩ := H
                  replace H : (impl_ErrBy.l0 k1 t1126 l1 (l1.length : Int) (wrap64 (x19_1 + 1))) = some (r1, r2) := H
                  have A27 := Aside0.mk A270
                  clear A270
                  have H' := Aside0.mk H
                  clear H
                  have p1117 : 0 ≤ (x19_1 : Int) := of_decide_eq_true (by first | (with_reducible assumption) | assumption)
                  have q1117 : x19_1 < (l1.length : Int) := of_decide_eq_true (by first | (with_reducible assumption) | assumption)
                  obtain ⟨ad1117, e1117, hx1117_0, hx1117_1, hx1117_2⟩ := at_T63 HR1.out x19_1 p1117 q1117
                  cases e1117
                  replace hx1117_0 := (HB.out.cell (World.block_lt_of_cell? w _ hx1117_0)).trans hx1117_0
                  replace hx1117_1 := (HB.out.cell (World.block_lt_of_cell? w _ hx1117_1)).trans hx1117_1
                  replace hx1117_2 := (HB.out.cell (World.block_lt_of_cell? w _ hx1117_2)).trans hx1117_2
                  replace p1117 := eq_true p1117
                  replace q1117 := eq_true q1117
                  go_wp2_with (first | ((with_reducible refine gate_dst (N := 8) rfl ?_); refine box_event ?hg (N := 8) ?hd (cs := #[.int .i64 0, .int .i64 0, .int .i64 0]) (t := 63) ?hr ?_; (case hd => rfl); (case hg => rfl); (case hr => first | (go_simp; done) | (go_simp; rfl)); intro gb1118 hg w28 hbox hb; have n0_ := Aside0.mk (Kd.R_below (by (with_reducible repeat (first | apply Kd.R_alloc | apply Kd.R_drewN | apply Kd.R_drew)); exact HO_6.out) hb); have n1_ := Aside0.mk (below_step (by repeat (first | (with_reducible first | exact HB.out | apply below_alloc | apply pw_below_drewN | apply below_drew1) | exact HB.out)) hb); have n2_ := Aside0.mk (hbox); have n3_ := Aside0.mk ((by rw [hg]; exact (below_size (by repeat (first | (with_reducible first | exact HB.out | apply below_alloc | apply pw_below_drewN | apply below_drew1) | exact HB.out))) : w.heap.size ≤ gb1118)); have n4_ := Aside0.mk ((by rw [hg]; exact (below_size (by repeat (first | (with_reducible first | exact HB.out | apply below_alloc | apply pw_below_drewN | apply below_drew1) | exact HB.out))) : w.heap.size ≤ gb1118)); clear HO_6; clear HB; have HO_6 := n0_; have HB := n1_; have BK1118 := n2_; have GW1118 := n3_; have GE1118 := n4_; clear n0_ n1_ n2_ n3_ n4_; clear hb hbox hg; have hcz29_0 : w28.cell? ⟨gb1118, 0, none⟩ = some (.int .i64 0) := (blk_cell BK1118.out 0).trans rfl; have hcz29_1 : w28.cell? ⟨gb1118, 1, none⟩ = some (.int .i64 0) := (blk_cell BK1118.out 1).trans rfl; have hcz29_2 : w28.cell? ⟨gb1118, 2, none⟩ = some (.int .i64 0) := (blk_cell BK1118.out 2).trans rfl; have hfz29_0 := blk_frozen BK1118.out 0; have hfz29_1 := blk_frozen BK1118.out 1; have hfz29_2 := blk_frozen BK1118.out 2) | ((with_reducible refine gate_dst (N := 30) rfl ?_); refine Kd.R_lit (Kd.int .i64) _ 3 ?hg (N := 30) ?hd (xs := ([(rd_T63 l1 x19_1).f2] : List Int)) (inner := [.int .i64 ((rd_T63 l1 x19_1).f2)]) (ok := fun _ => True) (okp := fun _ => True) ?hr ?hp (fun _ hk => hk) trivial (Below.refl _ _) (Nat.le_refl _) (by simp) ?_; (case hd => rfl); (case hg => rfl); (case hr => first | (go_simp; done) | (go_simp; rfl)); (case hp => exact (Reps.one (show Kd.M (Kd.int .i64) _ _ _ ((rd_T63 l1 x19_1).f2) [.int .i64 ((rd_T63 l1 x19_1).f2)] from rfl) (Reps.none _ _))); intro v1124 w30 ho31 hb hg_ hnew_; clear hg_ hnew_; (first | rw [← Ny1123.out] at ho31 | (simp only [Int.reduceToNat] at ho31; rw [← Ny1123.out] at ho31)); have n0_ := Aside0.mk (Kd.R_elder' (by (with_reducible repeat (first | apply Kd.R_alloc | apply Kd.R_drewN | apply Kd.R_drew)); exact (Kd.R_mono (Kd.R_far (p := ⟨gb1118, 2, none⟩) (Kd.R_far (p := ⟨gb1118, 1, none⟩) (Kd.R_far (p := ⟨gb1118, 0, none⟩) (Kd.R_types HO_6.out BK1118.out (by decide)) (fun _ hk => hk.2) (.int .i64 ((rd_T63 l1 x19_1).f0))) (fun _ hk => hk.2) (.int .i64 ((rd_T63 l1 x19_1).f1))) (fun _ hk => hk.2) (.int .i64 ((rd_T63 l1 x19_1).f2))) (fun _ h_ => h_.1))) (Kd.R_base ho31) hb); have n1_ := Aside0.mk (Kd.R_lower (Kd.R_new' ho31 (Kd.R_lt (by (with_reducible repeat (first | apply Kd.R_alloc | apply Kd.R_drewN | apply Kd.R_drew)); exact (Kd.R_mono (Kd.R_far (p := ⟨gb1118, 2, none⟩) (Kd.R_far (p := ⟨gb1118, 1, none⟩) (Kd.R_far (p := ⟨gb1118, 0, none⟩) (Kd.R_types HO_6.out BK1118.out (by decide)) (fun _ hk => hk.2) (.int .i64 ((rd_T63 l1 x19_1).f0))) (fun _ hk => hk.2) (.int .i64 ((rd_T63 l1 x19_1).f1))) (fun _ hk => hk.2) (.int .i64 ((rd_T63 l1 x19_1).f2))) (fun _ h_ => h_.1))))) (below_size (by repeat (first | (with_reducible first | exact HB.out | apply below_alloc | apply pw_below_drewN | apply below_drew1 | refine below_set ?_ GE1118.out) | exact HB.out)))); have n2_ := Aside0.mk (blk_below (g := gb1118) (o := .cells #[.int .i64 ((rd_T63 l1 x19_1).f0), .int .i64 ((rd_T63 l1 x19_1).f1), .int .i64 ((rd_T63 l1 x19_1).f2)] 63 (0, 0)) (by (with_reducible repeat (first | refine blk_drewN ?_ _ | refine blk_drew ?_ | refine blk_alloc ?_ _)); refine blk_put (cs := #[.int .i64 ((rd_T63 l1 x19_1).f0), .int .i64 ((rd_T63 l1 x19_1).f1), .int .i64 0]) ?_ 2 _ rfl; (with_reducible repeat (first | refine blk_drewN ?_ _ | refine blk_drew ?_ | refine blk_alloc ?_ _)); refine blk_put (cs := #[.int .i64 ((rd_T63 l1 x19_1).f0), .int .i64 0, .int .i64 0]) ?_ 1 _ rfl; (with_reducible repeat (first | refine blk_drewN ?_ _ | refine blk_drew ?_ | refine blk_alloc ?_ _)); refine blk_put (cs := #[.int .i64 0, .int .i64 0, .int .i64 0]) ?_ 0 _ rfl; (with_reducible repeat (first | refine blk_drewN ?_ _ | refine blk_drew ?_ | refine blk_alloc ?_ _)); exact BK1118.out) hb); have n3_ := Aside0.mk (below_step (by repeat (first | (with_reducible first | exact HB.out | apply below_alloc | apply pw_below_drewN | apply below_drew1 | refine below_set ?_ GE1118.out) | exact HB.out)) hb); clear HO_6; clear BK1118; clear HB; have HO_6 := n0_; have HO1125 := n1_; have BK1118 := n2_; have HB := n3_; clear n0_ n1_ n2_ n3_; clear hb ho31; obtain ⟨Ao32, co32, eo32⟩ := Kd.R_slice HO_6.out; subst eo32) | (go_at_call 108; refine Calls.mono (er_insert w.heap.size _ _ x6_1 _ _ _ t1126 _ HO_6.out HO1125.out Ny1123.out (fun k_ hk => hk.2) A27.out ?side3) ?_; (case side3 => exact (below_size (by repeat (first | (with_reducible first | exact HB.out | apply below_alloc | apply pw_below_drewN | apply below_drew1 | refine below_set ?_ GE1118.out) | exact HB.out)))); rintro e w33 ⟨v1127, rfl, ho0, hb⟩; have n0_ := Aside0.mk ho0; have n1_ := Aside0.mk (Below.trans (by repeat (first | (with_reducible first | exact HB.out | apply below_alloc | apply pw_below_drewN | apply below_drew1 | refine below_set ?_ GE1118.out) | exact HB.out)) hb); clear HB; have HO1128 := n0_; have HB := n1_; clear n0_ n1_; (try clear hb); (try clear ho0)))
                  go_roundg k1
                  case measure => have := HK1.out; omega
                  case rel => exact ⟨(t1126), (wrap64 (x19_1 + 1)), (by first | rfl | (simp; done) | (simp [*]; done)), H', ⟨by have := HK1.out; omega⟩, ⟨by (with_reducible repeat (first | apply Kd.R_alloc | apply Kd.R_drewN | apply Kd.R_drew)); exact Kd.R_mono HO1128.out (fun _ hk => trivial)⟩, ⟨by repeat (first | (with_reducible first | exact HB.out | apply below_alloc | apply pw_below_drewN | apply below_drew1 | refine below_set ?_ GE1118.out) | exact HB.out)⟩⟩
            · rw [if_neg c10] at H
              exact absurd H (by simp)
          · rw [if_neg c9] at H
            exact absurd H (by simp)
        · rw [if_neg c8] at H
          have c8b0 : decide (x19_1 < (l1.length : Int)) = false := decide_eq_false c8
          clear c8
          simp only [Option.some.injEq, Prod.mk.injEq] at H
          obtain ⟨rfl, rfl⟩ := H
          go_wp2
          go_ret2
          exact ⟨_, by first | rfl | (simp [errW_none, errW_some] <;> rfl) | (simp [*, errW_none, errW_some] <;> rfl), by (with_reducible repeat (first | apply Kd.R_alloc | apply Kd.R_drewN | apply Kd.R_drew)); exact HO_6.out, by repeat (first | (with_reducible first | exact HB.out | apply below_alloc | apply pw_below_drewN | apply below_drew1) | exact HB.out)⟩
  · replace c5 := Bool.eq_false_iff.mpr c5
    subst c5
    have H1 : (some (t1113, false)) = some (r1, r2) := by rw [if_neg (show ¬ (false = true) by decide)] at H; exact H
    clear H
    have H := H1
    clear H1
    simp only [Option.some.injEq, Prod.mk.injEq] at H
    obtain ⟨rfl, rfl⟩ := H
    go_enter Try.func32, Try.ntmps32
    go_wp2_with (first | ((with_reducible refine gate_callee (f := 105) rfl ?_); refine goesL_ (some 10) rfl rfl Try.func105 (by kernel_rfl) rfl #[.slice A0 l0.length c0] rfl (by (try simp only [List.map_toArray, List.map_cons, List.map_nil]); first | done | rfl | (simp only [List.length_drop, List.length_take]; rfl)) ?_; (with_reducible refine (impl_clone_int.calls _ _ l0 t1113 _ ?side1 ?side2 A3.out).mono ?_); (case side1 => repeat (first | exact HR0.out | (with_reducible refine Kd.C_alloc ?_ _) | (with_reducible refine Kd.C_drewN ?_ _) | (with_reducible refine Kd.C_drew ?_))); (case side2 => exact HC0.out); rintro e w34 ⟨v1114, rfl, ho0, hb⟩; refine ⟨_, rfl, ?_⟩; have n0_ := Aside0.mk (Kd.R_lower ho0 (below_size (by repeat (first | (with_reducible first | exact HB.out | apply below_alloc | apply pw_below_drewN | apply below_drew1) | exact HB.out)))); have n1_ := Aside0.mk (below_step (by repeat (first | (with_reducible first | exact HB.out | apply below_alloc | apply pw_below_drewN | apply below_drew1) | exact HB.out)) hb); clear HB; have HO1115 := n0_; have HB := n1_; clear n0_ n1_; (try clear hb); (try clear hb2); (try clear hk); (try clear hi); (try clear ho0)) | ((with_reducible refine gate_callee (f := 106) rfl ?_); refine goesL_ (some 14) rfl rfl Try.func106 (by kernel_rfl) rfl #[.slice A1 l1.length c1, .int .i64 (l0.length : Int)] rfl (by (try simp only [List.map_toArray, List.map_cons, List.map_nil]); first | done | rfl | (simp only [List.length_drop, List.length_take]; rfl)) ?_; (with_reducible refine (impl_AreSlips.calls k _ _ l1 (l0.length : Int) false _ ?side1 ?side2 A4.out).mono ?_); (case side1 => repeat (first | exact (Kd.C_below HR1.out HB.out) | (with_reducible refine Kd.C_alloc ?_ _) | (with_reducible refine Kd.C_drewN ?_ _) | (with_reducible refine Kd.C_drew ?_))); (case side2 => exact HC1.out); rintro e w35 ⟨rfl, hb⟩; refine ⟨_, rfl, ?_⟩; have n0_ := Aside0.mk (Kd.R_below (by (with_reducible repeat (first | apply Kd.R_alloc | apply Kd.R_drewN | apply Kd.R_drew)); exact HO1115.out) hb); have n1_ := Aside0.mk (below_step (by repeat (first | (with_reducible first | exact HB.out | apply below_alloc | apply pw_below_drewN | apply below_drew1) | exact HB.out)) hb); clear HO1115; clear HB; have HO1115 := n0_; have HB := n1_; clear n0_ n1_; (try clear hb); (try clear hb2); (try clear hk); (try clear hi)))
    go_ret2
    exact ⟨_, by first | rfl | (simp [errW_none, errW_some] <;> rfl) | (simp [*, errW_none, errW_some] <;> rfl), by (with_reducible repeat (first | apply Kd.R_alloc | apply Kd.R_drewN | apply Kd.R_drew)); exact HO1115.out, by repeat (first | (with_reducible first | exact HB.out | apply below_alloc | apply pw_below_drewN | apply below_drew1) | exact HB.out)⟩

end Go.Proofs.Ytbhlmeghbfmgiaa.F
