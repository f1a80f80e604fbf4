/- FnExactPutEvent, part 4 of 4: texts of the claim, joined into one file. -/
import Derived.Test.YtmacgllblbeegaaZFnExactPutEvent3
import Derived.Lib.AppendZerosOnto
import Derived.Lib.AppendZeros
import Derived.Lib.JoinLaws
import Derived.Lib.Overlaps
import Derived.Laws.Externs
import Derived.Laws.NewBlocks
import Derived.Shelf.Spec.SlicesInsert
import Derived.Shelf.RegionOpenPlain
import Derived.Deep.RegionLaw
import Derived.Sort.WalkB12
import Derived.Shelf.Abstract
import Derived.Says
import Derived.Lib.SliceRun
import Derived.Deep.Slices
import Derived.Deep.Fields
import Derived.ChangeSame
import Derived.ChangeArms
import Derived.Lib.SmallJoins
import Derived.OpenShut
import Derived.Test.YtmacgllblbeegaaWWords
import Derived.Test.YtmacgllblbeegaaRows
import Derived.WalkKit
import Derived.ProofKit
import Derived.ShutString
import Derived.ChangeOld
import Derived.Below
import Derived.Carry
import Derived.SizedLaws

-- Written for this claim by the kit's print.py out of the translation, called by wip/tools/fprint.py. Lean checks it.
namespace Go.Proofs.Ytmacgllblbeegaa.F
open Go.RowKit Go.Proofs.YtmacgllblbeegaaW.PrintWords Go.Proofs.YtmacgllblbeegaaW.PrintLast Go.Proofs.YtmacgllblbeegaaW.PrintMore
attribute [local go_sem] max2_int min2_int max_two min_two max_three min_three max_four min_four   -- for this text's walks alone
set_option linter.unusedVariables false
set_option linter.unusedSimpArgs false

/-! ### impl_PutEvent: function 30 -/
-- LIKE spec_PutEvent
-- ROUNDS yes
-- IMPORT Derived.Lib.AppendZerosOnto
-- IMPORT Derived.Lib.AppendZeros
-- IMPORT Derived.Lib.JoinLaws
-- IMPORT Derived.Lib.Overlaps
-- IMPORT Derived.Laws.Externs
-- IMPORT Derived.Laws.NewBlocks
-- IMPORT Derived.Shelf.Spec.SlicesInsert
-- IMPORT Derived.Shelf.RegionOpenPlain
-- IMPORT Derived.Deep.RegionLaw
-- IMPORT Derived.Sort.WalkB12
-- IMPORT Derived.Shelf.Abstract
-- IMPORT Derived.Says
-- IMPORT Derived.Lib.SliceRun
-- NEEDS impl.VoiceOf
-- NEEDS impl.TakeEvent
-- NEEDS impl.clone[impl.Event]
-- NEEDS impl.IsScore
-- NEEDS impl.eventOrder
/-- A row of events of the call's own, out of its cells. -/
theorem R_mk4 {base go cap : Nat} {W : World} {x : List S37} (cur : Array Value) (hh : W.heap[go]? = some (.cells cur 37 (0, 0))) (hb : base ≤ go) (hc : x.length ≤ cap) (hm : cap ≤ maxLen) (hs : cur.size = cap * 4) (ht : cur.toList.take (x.length * 4) = x.flatMap cells4) :
    Kd.R k37 37 W base (fun _ => True) (.slice (some ⟨go, 0, none⟩) x.length cap) x := by
  refine ⟨fun _ _ => trivial, x.flatMap cells4, ⟨flat4_len x, .inr ⟨go, cap, cur, rfl, hb, hh, hc, hm, hs, ht⟩⟩, flat4_len x, fun j p hj => ?_⟩
  have e : ((x.flatMap cells4).drop (j * k37.sz)).take k37.sz = cells4 p := by
    show ((x.flatMap cells4).drop (j * 4)).take 4 = cells4 p
    rw [← flat4_drop]
    obtain ⟨hjl, rfl⟩ := List.getElem?_eq_some_iff.1 hj
    rw [List.drop_eq_getElem_cons hjl, List.flatMap_cons]
    rfl
  rw [e]
  exact k37_mkM W base _ p
/-- The cells of a row of events of the call's own. -/
theorem R_un4 {base go cap n : Nat} {W : World} {x : List S37} (h : Kd.R k37 37 W base (fun _ => True) (.slice (some ⟨go, 0, none⟩) n cap) x) : n = x.length ∧ base ≤ go ∧ ∃ cur : Array Value, W.heap[go]? = some (.cells cur 37 (0, 0)) ∧ n ≤ cap ∧ cap ≤ maxLen ∧ cur.size = cap * 4 ∧ cur.toList.take (x.length * 4) = x.flatMap cells4 := by
  have hn := (Kd.R_reads' h).1
  have hall := R_all4 h
  obtain ⟨_, inner, ho, hr⟩ := h
  obtain ⟨hl, hh⟩ := ho
  rcases hh with ⟨hv, _⟩ | ⟨g, c, cur, hv, hb, hheap, hnc, hcm, hcs, ht⟩
  · simp at hv
  · simp only [Value.slice.injEq, Option.some.injEq, Addr.mk.injEq] at hv
    obtain ⟨⟨rfl, _, _⟩, hv2, rfl⟩ := hv
    refine ⟨hn, hb, cur, hheap, by omega, hcm, hcs, ?_⟩
    apply List.ext_getElem?
    intro q
    by_cases hq : q < x.length * 4
    · rw [List.getElem?_take_of_lt hq, Array.getElem?_toList]
      have hlt : q < (x.flatMap cells4).length := by rw [flat4_len]; exact hq
      have h1 := hall q _ (List.getElem?_eq_getElem hlt)
      rw [blk_cell hheap] at h1
      rw [h1, List.getElem?_eq_getElem hlt]
    · rw [List.getElem?_eq_none (by rw [List.length_take]; omega), List.getElem?_eq_none (by rw [flat4_len]; omega)]
set_option maxRecDepth 100000 in
/-- The builtin copy, over rows of events: all is read before anything is written. -/
theorem run_copy4 (W : World) (ty go o dLen dCap : Nat) (a : Addr) (sLen sCap : Nat) (cs : List Value) (hn : cs.length = Nat.min sLen dLen * 4)
    (hsrc : ∀ j v, cs[j]? = some v → W.cell? (a.add j) = some v) (hc : ∀ j, j < cs.length → (W.cell? ⟨go, o + j, none⟩).isSome = true) (hf : ∀ j, j < cs.length → W.frozen? ⟨go, o + j, none⟩ = false) (h1 : ∀ v ∈ cs, v.oneCell' = true) :
    (Builtin.copy_ #[25, 25] ty #[.slice (some ⟨go, o, none⟩) dLen dCap, .slice (some a) sLen sCap]).run Try.prog W = .ok (goInt (Nat.min sLen dLen)) (W.setCells go o cs) := by
  have hl := run_loadCells_list (P := Try.prog) W a cs hsrc
  have hst := run_storeCells_cells (P := Try.prog) go o cs 0 W (by simpa using hc) (by simpa using hf) h1
  obtain ⟨i0, hi0, hz0, hz1, hz2⟩ := info_parts info37
  simp [Builtin.copy_, run_underlying Try.underlying25, Builtin.lenOf, Builtin.firstCells, sizeOf, typeInfo, hi0, hz1, ← hn, hl, hst]
theorem zero4 (m : Nat) : (Builtin.zeroCells (Value.agg #[.int .i64 0, .int .i64 0, .int .i64 0, .int .i64 0]).cells m).toList = List.replicate (m * 4) (Value.int .i64 0) := by
  have e : (Value.agg #[.int .i64 0, .int .i64 0, .int .i64 0, .int .i64 0]).cells = #[.int .i64 0, .int .i64 0, .int .i64 0, .int .i64 0] := rfl
  rw [e]
  apply List.ext_getElem
  · simp [Builtin.zeroCells]
  · intro i h1 h2
    have h4 : i % 4 < 4 := Nat.mod_lt _ (by decide)
    simp only [Builtin.zeroCells, Array.toList_map, List.getElem_map, List.getElem_replicate]
    simp only [Array.getElem_toList, Array.getElem_range]
    show (#[Value.int .i64 0, .int .i64 0, .int .i64 0, .int .i64 0])[i % 4]! = _
    generalize i % 4 = q at h4
    match q, h4 with
    | 0, _ => rfl
    | 1, _ => rfl
    | 2, _ => rfl
    | 3, _ => rfl
theorem flat4_zero : ∀ m : Nat, (List.replicate m z37).flatMap cells4 = List.replicate (m * 4) (Value.int .i64 0)
  | 0 => rfl
  | m + 1 => by
    rw [List.replicate_succ, List.flatMap_cons, flat4_zero m, show (m + 1) * 4 = m * 4 + 1 + 1 + 1 + 1 by omega]
    simp only [List.replicate_succ]
    rfl
theorem add_at4 (g o t : Nat) : (⟨g, o, none⟩ : Addr).add t = ⟨g, o + t, none⟩ := by unfold Addr.add; split <;> simp_all
theorem flat4_take : ∀ (j : Nat) (x : List S37), (x.take j).flatMap cells4 = (x.flatMap cells4).take (j * 4)
  | 0, x => by simp
  | j + 1, [] => by simp
  | j + 1, y :: x => by
    rw [List.take_succ_cons, List.flatMap_cons, flat4_take j x, List.flatMap_cons, show (j + 1) * 4 = (cells4 y).length + j * 4 by show _ = 4 + j * 4; omega, List.take_length_add_append]

set_option maxHeartbeats 8000000 in
set_option maxRecDepth 100000 in
/-- Insert in the midst of a row without room: a new row. -/
theorem pe_grow (base go c i bv : Nat) (l : List S37) (e : S37) (w : World) (HR : Kd.R k37 37 w base (fun _ => True) (.slice (some ⟨go, 0, none⟩) l.length c) l) (HV : Kd.R k37 37 w base (fun _ => True) (.slice (some ⟨bv, 0, none⟩) 1 1) [e]) (hi : i < l.length) (hroom : c < l.length + 1) (hbig : l.length ≤ 4000000000000) (hbs : base ≤ w.heap.size) :
    Calls Try.prog 60 #[.slice (some ⟨go, 0, none⟩) l.length c, .int .i64 (i : Int), .slice (some ⟨bv, 0, none⟩) 1 1] w fun r w' => ∃ v0_ : Value, r = .returned v0_ ∧ Kd.R k37 37 w' base (fun _ => True) v0_ (l.take i ++ [e] ++ l.drop i) ∧ Below base w w' := by
  have hw0 : wrap64 ((l.length : Int) + 1) = (l.length : Int) + 1 := by unfold wrap64; omega
  have hw1 : wrap64 ((i : Int) + 1) = (i : Int) + 1 := by unfold wrap64; omega
  have hw2 : IntKind.i64.wrap ((i : Int) + 1) = (i : Int) + 1 := by rw [IntKind.wrap_i64]; omega
  have hb1 : (0 : Int) ≤ (i : Int) + 1 := by omega
  have htn : ((i : Int) + 1).toNat = i + 1 := by omega
  have hb3 : (i : Int) ≤ (l.length : Int) := by omega
  have hkk : wrap64 ((l.length : Int) + 1 - (i : Int)) = (l.length : Int) + 1 - (i : Int) := by unfold wrap64; omega
  have hk2 : (l.length : Int) + 1 - (i : Int) = ((l.length + 1 - i : Nat) : Int) := by omega
  obtain ⟨-, hbg, cur, hcur, hnc, hcm, hcsz, hct⟩ := R_un4 HR
  have hbw : go < w.heap.size := blk_lt hcur
  obtain ⟨-, -, curv, hcurv, -, -, -, -⟩ := R_un4 HV
  have hvw : bv < w.heap.size := blk_lt hcurv
  have u25 := run_underlying Try.underlying25
  have mixed : Try.prog.follows Departure.mixedOrders = true := by kernel_rfl
  obtain ⟨i0, hi0, hz0, hzs, hzb⟩ := info_parts info37
  have hcs := R_all4 HR
  have hvs : ∀ j u, (cells4 e)[j]? = some u → w.cell? ⟨bv, j, none⟩ = some u := fun j u hu => R_all4 HV j u (by simpa using hu)
  have hik : i + (l.length + 1 - i) = l.length + 1 := by omega
  have hlt4 : ((l.take i).flatMap cells4).length = i * 4 := by rw [flat4_len, List.length_take]; congr 1; omega
  have hold : (Builtin.firstCells i0.size i (.slice (some ⟨go, 0, none⟩) i c)).run Try.prog w.drew = .ok ((l.take i).flatMap cells4).toArray w.drew := by
    rw [hzs]
    exact run_firstCells_some w.drew 4 i ⟨go, 0, none⟩ i c ((l.take i).flatMap cells4) hlt4 (fun j v hj => by
      rw [add_plain]
      rw [flat4_take, List.getElem?_take] at hj
      split at hj
      · exact hcs j v hj
      · cases hj)
  obtain ⟨G, hG⟩ : ∃ G, G = grownCap w (l.length + 1) c 37 := ⟨_, rfl⟩
  obtain ⟨ROW, hROW⟩ : ∃ ROW : Array Value, ROW = ((l.take i).flatMap cells4).toArray ++ Builtin.zeroCells (Value.agg #[.int .i64 0, .int .i64 0, .int .i64 0, .int .i64 0]).cells (l.length + 1 - i) ++ Builtin.zeroCells (Value.agg #[.int .i64 0, .int .i64 0, .int .i64 0, .int .i64 0]).cells (G - (l.length + 1)) := ⟨_, rfl⟩
  have hrz : ∀ ty, (Builtin.append_ #[25, 3] ty #[.slice (some ⟨go, 0, none⟩) i c, .int .i64 ((l.length : Int) + 1 - (i : Int))]).run Try.prog w = .ok (.slice (some ⟨w.heap.size, 0, none⟩) (l.length + 1) G) (w.drew.alloc (.cells ROW 37)) := fun ty => by
    have h := Lib.run_append_grow_zeros w 25 3 ty 37 i0 _ .i64 .i64 Try.underlying25 Try.underlying3 hi0 hz0 (some ⟨go, 0, none⟩) i c ((l.take i).flatMap cells4) hold (l.length + 1 - i) (by omega) (by omega) (by omega) (by omega) (by rw [hzb]; omega) (by rw [hzb, hik]; exact growslice_fits hroom (by omega))
    rw [hik] at h
    rw [hROW, hG, hk2]
    exact h
  have hGn : l.length + 1 ≤ G := by rw [hG]; exact grownCap_ge w _ _ _
  have hGm : G ≤ maxLen := by rw [hG]; exact grownCap_le_maxLen w (l.length + 1) c 37 (by unfold maxLen; omega)
  obtain ⟨W1, hW1⟩ : ∃ W1, W1 = w.drew.alloc (.cells ROW 37) := ⟨_, rfl⟩
  have hR1l : ROW.toList = (l.take i ++ List.replicate (l.length + 1 - i) z37).flatMap cells4 ++ List.replicate ((G - (l.length + 1)) * 4) (.int .i64 0) := by
    rw [hROW, Array.toList_append, Array.toList_append, zero4, zero4, List.flatMap_append, flat4_zero]
  have hlen1 : (l.take i ++ List.replicate (l.length + 1 - i) z37).length = l.length + 1 := by simp; omega
  have HR1 : Kd.R k37 37 W1 base (fun _ => True) (.slice (some ⟨w.heap.size, 0, none⟩) (l.length + 1) G) (l.take i ++ List.replicate (l.length + 1 - i) z37) := by
    have := R_mk4 (base := base) (go := w.heap.size) (cap := G) (W := W1) (x := l.take i ++ List.replicate (l.length + 1 - i) z37) ROW (by rw [hW1]; exact blk_new w.drew _) hbs (by omega) hGm (by rw [← Array.length_toList, hR1l, List.length_append, flat4_len, hlen1, List.length_replicate]; omega) (by rw [hR1l, List.take_left' (by rw [flat4_len])])
    rwa [hlen1] at this
  have HR2 := R_put4 [e] i W1 _ (by simp; omega) HR1
  obtain ⟨W2, hW2⟩ : ∃ W2, W2 = W1.setCells w.heap.size (i * 4) (cells4 e) := ⟨_, rfl⟩
  have hW2' : W1.setCells w.heap.size (i * 4) ([e].flatMap cells4) = W2 := by rw [hW2]; simp
  rw [hW2'] at HR2
  have HR3 := R_put4 (l.drop i) (i + 1) W2.drew _ (by rw [List.length_drop]; omega) (Kd.R_drew HR2)
  have ex : ((l.take i ++ List.replicate (l.length + 1 - i) z37).take i ++ [e] ++ (l.take i ++ List.replicate (l.length + 1 - i) z37).drop (i + [e].length)).take (i + 1) ++ l.drop i ++ ((l.take i ++ List.replicate (l.length + 1 - i) z37).take i ++ [e] ++ (l.take i ++ List.replicate (l.length + 1 - i) z37).drop (i + [e].length)).drop (i + 1 + (l.drop i).length) = l.take i ++ [e] ++ l.drop i := by
    have hti : (l.take i).length = i := by rw [List.length_take]; omega
    have e1 : (l.take i ++ List.replicate (l.length + 1 - i) z37).take i = l.take i := by rw [List.take_left' hti]
    rw [e1]
    have e2 : (l.take i ++ [e] ++ (l.take i ++ List.replicate (l.length + 1 - i) z37).drop (i + [e].length)).take (i + 1) = l.take i ++ [e] := by rw [List.take_left' (by simp; omega)]
    rw [e2, List.drop_of_length_le (l := l.take i ++ [e] ++ (l.take i ++ List.replicate (l.length + 1 - i) z37).drop (i + [e].length)) (by simp; omega), List.append_nil]
  rw [ex] at HR3
  have hN : ∀ q, q < (l.length + 1) * 4 → (W1.cell? ⟨w.heap.size, q, none⟩).isSome = true ∧ W1.frozen? ⟨w.heap.size, q, none⟩ = false := fun q hq => R_some4 HR1 q hq
  have hN2 : ∀ q, q < (l.length + 1) * 4 → (W2.cell? ⟨w.heap.size, q, none⟩).isSome = true ∧ W2.frozen? ⟨w.heap.size, q, none⟩ = false := fun q hq => R_some4 HR2 q hq
  have hOb : ∀ j v, w.cell? ⟨go, j, none⟩ = some v → W2.cell? ⟨go, j, none⟩ = some v := fun j v h => by
    rw [hW2, World.cell?_setCells_out _ _ _ _ _ (fun h' _ => absurd h' (by show go ≠ w.heap.size; omega)), hW1, World.cell?_alloc_past (w := w.drew) _ go j hbw]
    exact h
  have hOv : ∀ j v, w.cell? ⟨bv, j, none⟩ = some v → W1.cell? ⟨bv, j, none⟩ = some v := fun j v h => by rw [hW1, World.cell?_alloc_past (w := w.drew) _ bv j hvw]; exact h
  have hmA : Nat.min 1 (l.length + 1 - i) = 1 := Nat.min_eq_left (by omega)
  have hmB : Nat.min (l.length - i) (l.length + 1 - (i + 1)) = l.length - i := Nat.min_eq_left (by omega)
  have h1e : ∀ u ∈ cells4 e, u.oneCell' = true := fun u hu => flat4_one [e] u (by simpa using hu)
  have hcpA : ∀ (W : World), (∀ x, W.cell? x = W1.cell? x) → (∀ x, W.frozen? x = W1.frozen? x) → ∀ ty dc, (Builtin.copy_ #[25, 25] ty #[.slice (some ⟨w.heap.size, i * 4, none⟩) (l.length + 1 - i) dc, .slice (some ⟨bv, 0, none⟩) 1 1]).run Try.prog W = .ok (goInt (Nat.min 1 (l.length + 1 - i))) (W.setCells w.heap.size (i * 4) (cells4 e)) := fun W hWc hWf ty dc =>
    run_copy4 W ty w.heap.size (i * 4) (l.length + 1 - i) dc ⟨bv, 0, none⟩ 1 1 (cells4 e) (by rw [hmA]; rfl)
      (fun j v hj => by rw [add_plain, hWc]; exact hOv _ v (hvs j v hj))
      (fun j hj => by rw [hWc]; exact (hN _ (by have : (cells4 e).length = 4 := rfl; omega)).1) (fun j hj => by rw [hWf]; exact (hN _ (by have : (cells4 e).length = 4 := rfl; omega)).2) h1e
  have hdl : ((l.drop i).flatMap cells4).length = (l.length - i) * 4 := by rw [flat4_len, List.length_drop]
  have hcpB : ∀ (W : World), (∀ x, W.cell? x = W2.cell? x) → (∀ x, W.frozen? x = W2.frozen? x) → ∀ ty dc sc, (Builtin.copy_ #[25, 25] ty #[.slice (some ⟨w.heap.size, (i + 1) * 4, none⟩) (l.length + 1 - (i + 1)) dc, .slice (some ⟨go, i * 4, none⟩) (l.length - i) sc]).run Try.prog W = .ok (goInt (Nat.min (l.length - i) (l.length + 1 - (i + 1)))) (W.setCells w.heap.size ((i + 1) * 4) ((l.drop i).flatMap cells4)) := fun W hWc hWf ty dc sc =>
    run_copy4 W ty w.heap.size ((i + 1) * 4) (l.length + 1 - (i + 1)) dc ⟨go, i * 4, none⟩ (l.length - i) sc ((l.drop i).flatMap cells4) (by rw [hmB, hdl])
      (fun j v hj => by
        rw [add_at4, hWc]
        refine hOb _ v (hcs (i * 4 + j) v ?_)
        rwa [flat4_drop, List.getElem?_drop] at hj)
      (fun j hj => by rw [hWc]; exact (hN2 _ (by omega)).1) (fun j hj => by rw [hWf]; exact (hN2 _ (by omega)).2) (flat4_one _)
  have hG63 : G ≤ 9223372036854775807 := by unfold maxLen at hGm; omega
  have hGi : ¬ (G = i) := by omega
  have hGim : ¬ (G = i + 1) := by omega
  have hci : ¬ (c = i) := by omega
  have hiG : i ≤ G := by omega
  have hi1G : i + 1 ≤ G := by omega
  have hic : i ≤ c := by omega
  have hil : i ≤ l.length := by omega
  have hz2 : ((i : Int) == (l.length : Int)) = false := beq_eq_false_iff_ne.2 (by omega)
  have hgt : (c : Int) < (l.length : Int) + 1 := by omega
  rw [hW2, hW1] at HR3
  have HF := Aside0.mk HR3
  have BS := Aside0.mk hbs
  have hE1 : ∀ x, ((w.alloc (.cells ROW 37)).drew).cell? x = W1.cell? x := fun x => by rw [hW1]; rfl
  have hE2 : ∀ x, ((w.alloc (.cells ROW 37)).drew).frozen? x = W1.frozen? x := fun x => by rw [hW1]; rfl
  have hF1 : ∀ x, ((((w.alloc (.cells ROW 37)).drew).setCells w.heap.size (i * 4) (cells4 e)).drew).cell? x = W2.cell? x := fun x => by rw [hW2, hW1]; rfl
  have hF2 : ∀ x, ((((w.alloc (.cells ROW 37)).drew).setCells w.heap.size (i * 4) (cells4 e)).drew).frozen? x = W2.frozen? x := fun x => by rw [hW2, hW1]; rfl
  have hcpA1 := hcpA _ hE1 hE2
  have hcpB1 := hcpB _ hF1 hF2
  clear hcpA hcpB hE1 hE2 hF1 hF2
  clear hk2 hik hW1 hW2' hcm hGm hcsz HR HV HR1 HR2 HR3 hcur hcurv hct hcs hvs hold hROW hG hR1l hlen1 hN hN2 hOb hOv h1e hdl ex hlt4 hbs hbig hW2
  go_enter Try.func60, Try.ntmps60
  go_wp2_with (first
    | (at_builtin; refine Lib.wpList_append_run _ rfl _ _ _ _ rfl _ _ rfl rfl _ _ (hrz _) ?_)
    | (at_builtin; refine wpList_copy_runI _ rfl _ _ 25 25 rfl _ _ rfl rfl (hcpA1 _ _) ?_))
  go_region_law_o (refine step_copy_runI rfl _ _ 25 25 rfl (.slice (some ⟨w.heap.size, (i + 1) * 4, none⟩) (l.length + 1 - (i + 1)) (G - (i + 1))) (.slice (some ⟨go, i * 4, none⟩) (l.length - i) (c - i)) (by simp [Act.eval, Act.put]) (by simp [Act.eval, Act.put]) (hcpB1 3 (G - (i + 1)) (c - i)) ?_)
  go_wp2
  go_ret
  refine ⟨_, rfl, HF.out, ?_⟩
  refine below_cells BS.out _ _ _ ?_
  have h0 : Below base w (w.alloc (.cells ROW 37)) := (Below.refl base w).alloc BS.out _
  have h1 : Below base w (w.alloc (.cells ROW 37)).drew := below_then h0 (Nat.le_trans BS.out (below_size (below_alloc (Below.refl _ w) _))) (below_drew1 (Below.refl _ _))
  have h2 := below_cells BS.out (cells4 e) (i * 4) _ h1
  exact below_then h2 (Nat.le_trans BS.out (Nat.le_trans (below_size (below_drew1 (below_alloc (Below.refl _ w) _))) (Nat.le_of_eq (setCells_same _ _ _ _).2.2.2.symm))) (below_drew1 (Below.refl _ _))
set_option maxHeartbeats 8000000 in
set_option maxRecDepth 100000 in
/-- Insert in the midst of a row that has room: in place. -/
theorem pe_shift (base go c i bv : Nat) (l : List S37) (e : S37) (w : World) (HR : Kd.R k37 37 w base (fun _ => True) (.slice (some ⟨go, 0, none⟩) l.length c) l) (HV : Kd.R k37 37 w base (fun _ => True) (.slice (some ⟨bv, 0, none⟩) 1 1) [e]) (hne : bv ≠ go) (hi : i < l.length) (hroom : l.length + 1 ≤ c) (hbig : l.length ≤ 4000000000000) (hbs : base ≤ w.heap.size) :
    Calls Try.prog 60 #[.slice (some ⟨go, 0, none⟩) l.length c, .int .i64 (i : Int), .slice (some ⟨bv, 0, none⟩) 1 1] w fun r w' => ∃ v0_ : Value, r = .returned v0_ ∧ Kd.R k37 37 w' base (fun _ => True) v0_ (l.take i ++ [e] ++ l.drop i) ∧ Below base w w' := by
  have hw0 : wrap64 ((l.length : Int) + 1) = (l.length : Int) + 1 := by unfold wrap64; omega
  have hw1 : wrap64 ((i : Int) + 1) = (i : Int) + 1 := by unfold wrap64; omega
  have hw2 : IntKind.i64.wrap ((i : Int) + 1) = (i : Int) + 1 := by rw [IntKind.wrap_i64]; omega
  have hw3 : IntKind.i64.wrap ((l.length : Int) + 1) = (l.length : Int) + 1 := by rw [IntKind.wrap_i64]; omega
  have hb1 : (0 : Int) ≤ (i : Int) + 1 := by omega
  have htn : ((i : Int) + 1).toNat = i + 1 := by omega
  have hb3 : (i : Int) ≤ (l.length : Int) := by omega
  have hb5 : (i : Int) ≤ (l.length : Int) + 1 := by omega
  have hb6 : (0 : Int) ≤ (l.length : Int) + 1 := by omega
  have hb7 : ((l.length : Int) + 1).toNat = l.length + 1 := by omega
  have hb8 : (l.length : Int) + 1 ≤ (c : Int) := by omega
  obtain ⟨-, hbg, cur, hcur, hnc, hcm, hcsz, hct⟩ := R_un4 HR
  obtain ⟨-, -, curv, hcurv, -, -, -, -⟩ := R_un4 HV
  have u25 := run_underlying Try.underlying25
  have mixed : Try.prog.follows Departure.mixedOrders = true := by kernel_rfl
  have hcs := R_all4 HR
  have hvs : ∀ j u, (cells4 e)[j]? = some u → w.cell? ⟨bv, j, none⟩ = some u := fun j u hu => R_all4 HV j u (by simpa using hu)
  have hall : ∀ q, q < c * 4 → (w.cell? ⟨go, q, none⟩).isSome = true := fun q hq => by
    rw [blk_cell hcur, Array.getElem?_eq_getElem (by omega)]; rfl
  have hfz : ∀ q, w.frozen? ⟨go, q, none⟩ = false := fun q => blk_frozen hcur q
  have hov : ∀ lb cb, (callFunc 71 #[.slice (some ⟨bv, 0, none⟩) 1 1, .slice (some ⟨go, (i + 1) * 4, none⟩) lb cb]).run Try.prog w = .ok (.value (.bool false)) w := fun lb cb => by
    rw [run_callFunc_extern Try.func71 (by kernel_rfl) (by kernel_rfl) (by kernel_rfl) (e := Extern.SlicesOverlaps.overlaps #[25, 25] #[4]) (by kernel_rfl),
      Lib.run_overlaps_apart w 25 4 37 Try.underlying25 4 Try.sizeOf37 ⟨bv, 0, none⟩ ⟨go, (i + 1) * 4, none⟩ 1 1 lb cb hne 37 37 curv.size cur.size (by unfold World.shape?; rw [hcurv]) (by unfold World.shape?; rw [hcur]) (by omega) (blk_frozen hcurv 0) (blk_frozen hcurv _)]
    rfl
  obtain ⟨vs, hvsd⟩ : ∃ vs, vs = (l.drop i).flatMap cells4 := ⟨_, rfl⟩
  have hdl : vs.length = (l.length - i) * 4 := by rw [hvsd, flat4_len, List.length_drop]
  have h1v : ∀ u ∈ vs, u.oneCell' = true := by rw [hvsd]; exact flat4_one _
  have hmA : Nat.min 1 (l.length + 1 - i) = 1 := Nat.min_eq_left (by omega)
  have hmB : Nat.min (l.length + 1 - i) (l.length + 1 - (i + 1)) = l.length - i := by
    rw [show l.length + 1 - (i + 1) = l.length - i by omega]
    exact Nat.min_eq_right (by omega)
  have h1e : ∀ u ∈ cells4 e, u.oneCell' = true := fun u hu => flat4_one [e] u (by simpa using hu)
  obtain ⟨W1, hW1⟩ : ∃ W1, W1 = w.drew.setCells go ((i + 1) * 4) vs := ⟨_, rfl⟩
  have hcp1 : ∀ ty dc sc, (Builtin.copy_ #[25, 25] ty #[.slice (some ⟨go, (i + 1) * 4, none⟩) (l.length + 1 - (i + 1)) dc, .slice (some ⟨go, i * 4, none⟩) (l.length + 1 - i) sc]).run Try.prog w.drew = .ok (goInt (Nat.min (l.length + 1 - i) (l.length + 1 - (i + 1)))) W1 := fun ty dc sc => by
    rw [hW1]
    exact run_copy4 w.drew ty go ((i + 1) * 4) (l.length + 1 - (i + 1)) dc ⟨go, i * 4, none⟩ (l.length + 1 - i) sc vs (by rw [hmB, hdl])
      (fun j v hj => by
        rw [add_at4]
        refine hcs (i * 4 + j) v ?_
        rwa [hvsd, flat4_drop, List.getElem?_drop] at hj)
      (fun j hj => hall _ (by omega)) (fun j hj => hfz _) h1v
  obtain ⟨cur1, hcur1, hsz1, htl1⟩ := setCells_row vs ((i + 1) * 4) w.drew cur hcur (by omega)
  rw [← hW1] at hcur1
  obtain ⟨cur2, hcur2, hsz2, htl2⟩ := setCells_row (cells4 e) (i * 4) W1 cur1 hcur1 (by rw [hsz1, hcsz]; show i * 4 + 4 ≤ _; omega)
  have hvW1 : ∀ j u, (cells4 e)[j]? = some u → W1.cell? ⟨bv, j, none⟩ = some u := fun j u hu => by
    rw [hW1, World.cell?_setCells_out _ _ _ _ _ (fun h' _ => absurd h' hne)]
    exact hvs j u hu
  have hcp2 : ∀ ty dc, (Builtin.copy_ #[25, 25] ty #[.slice (some ⟨go, i * 4, none⟩) (l.length + 1 - i) dc, .slice (some ⟨bv, 0, none⟩) 1 1]).run Try.prog W1 = .ok (goInt (Nat.min 1 (l.length + 1 - i))) (W1.setCells go (i * 4) (cells4 e)) := fun ty dc =>
    run_copy4 W1 ty go (i * 4) (l.length + 1 - i) dc ⟨bv, 0, none⟩ 1 1 (cells4 e) (by rw [hmA]; rfl)
      (fun j v hj => by rw [add_plain]; exact hvW1 j v hj)
      (fun j hj => by
        have : (cells4 e).length = 4 := rfl
        rw [blk_cell hcur1, Array.getElem?_eq_getElem (by omega)]; rfl) (fun j hj => blk_frozen hcur1 _) h1e
  have hlx : (l.take i ++ [e] ++ l.drop i).length = l.length + 1 := by simp; omega
  have hfin : cur2.toList.take ((l.take i ++ [e] ++ l.drop i).length * 4) = (l.take i ++ [e] ++ l.drop i).flatMap cells4 := by
    have e0 : cur.toList.take (i * 4) = (l.take i).flatMap cells4 := by
      rw [flat4_take, ← hct, List.take_take, Nat.min_eq_left (by omega)]
    have hcl : cur.toList.length = c * 4 := by rw [Array.length_toList, hcsz]
    have e1 : cur1.toList.take (i * 4) = (l.take i).flatMap cells4 := by
      rw [htl1, List.append_assoc, List.take_append_of_le_length (by rw [List.length_take]; omega), List.take_take, Nat.min_eq_left (by omega), e0]
    have e2 : cur1.toList.drop (i * 4 + (cells4 e).length) = vs ++ cur.toList.drop ((i + 1) * 4 + vs.length) := by
      rw [htl1, List.append_assoc, List.drop_left' (by rw [List.length_take, hcl]; show min _ _ = i * 4 + 4; omega)]
    rw [htl2, e1, e2, List.flatMap_append, List.flatMap_append, ← hvsd, ← List.append_assoc]
    have e3 : [e].flatMap cells4 = cells4 e := by simp
    rw [e3]
    refine List.take_left' ?_
    rw [hlx, List.length_append, List.length_append, flat4_len, List.length_take, hdl]
    show min i l.length * 4 + 4 + _ = _
    omega
  have HR2 := R_mk4 (base := base) (cap := c) (x := l.take i ++ [e] ++ l.drop i) cur2 hcur2 hbg (by rw [hlx]; exact hroom) hcm (by rw [hsz2, hsz1, hcsz]) hfin
  rw [hlx] at HR2
  have HF := Aside0.mk HR2
  have HB : Aside0 (Below base w (W1.setCells go (i * 4) (cells4 e))) := ⟨by
    refine below_cells hbg _ _ _ ?_
    rw [hW1]
    exact below_cells hbg _ _ _ (below_then (Below.refl base w) hbs (below_drew1 (Below.refl _ w)))⟩
  have hic : i ≤ c := by omega
  have hil : i ≤ l.length := by omega
  have hil1 : i ≤ l.length + 1 := by omega
  have hnc2 : ¬ (c : Int) < (l.length : Int) + 1 := by omega
  have hci : ¬ (c = i) := by omega
  have hci1 : ¬ (c = i + 1) := by omega
  have hz2 : ((i : Int) == (l.length : Int)) = false := beq_eq_false_iff_ne.2 (by omega)
  have hc63 : c ≤ 9223372036854775807 := by unfold maxLen at hcm; omega
  clear HR HV HR2 hcur hcurv hcur1 hcur2 hsz1 hsz2 htl1 htl2 hfin hct hcs hvs hvW1 hall hfz hdl h1v h1e hvsd hlx hcm hcsz hbs hbig hne hW1
  go_enter Try.func60, Try.ntmps60
  go_wp2_with (simp only [hov])
  go_region_law_o (refine step_copy_runI rfl _ _ 25 25 rfl (.slice (some ⟨go, (i + 1) * 4, none⟩) (l.length + 1 - (i + 1)) (c - (i + 1))) (.slice (some ⟨go, i * 4, none⟩) (l.length + 1 - i) (c - i)) (by simp [Act.eval, Act.put]) (by simp [Act.eval, Act.put]) (hcp1 3 (c - (i + 1)) (c - i)) ?_)
  go_wp2_with (at_builtin; refine wpList_copy_runI _ rfl _ _ 25 25 rfl _ _ rfl rfl (hcp2 _ _) ?_)
  go_ret
  exact ⟨_, rfl, HF.out, HB.out⟩

set_option maxHeartbeats 8000000 in
set_option maxRecDepth 100000 in
/-- Insert at the end: an append. -/
theorem pe_end (base bv : Nat) (v : Value) (l : List S37) (e : S37) (w : World) (HR : Kd.R k37 37 w base (fun _ => True) v l) (HV : Kd.R k37 37 w base (fun _ => True) (.slice (some ⟨bv, 0, none⟩) 1 1) [e]) (hbig : l.length ≤ 4000000000000) (hbs : base ≤ w.heap.size) :
    Calls Try.prog 60 #[v, .int .i64 (l.length : Int), .slice (some ⟨bv, 0, none⟩) 1 1] w fun r w' => ∃ v0_ : Value, r = .returned v0_ ∧ Kd.R k37 37 w' base (fun _ => True) v0_ (l ++ [e]) ∧ Below base w w' := by
  have hCV := (Kd.R_reads' HV).2.2
  obtain ⟨A, c, rfl⟩ := Kd.R_slice HR
  have hnc := (Kd.R_reads' HR).2.1
  have HO := Aside0.mk HR
  have HC := Aside0.mk hCV
  have HB := Aside0.mk (Below.refl base w)
  have BS := Aside0.mk hbs
  have HL := Aside0.mk hbig
  have hz2 : ((l.length : Int) == (l.length : Int)) = true := beq_self_eq_true _
  clear HR HV hCV hbs hbig
  go_enter Try.func60, Try.ntmps60
  go_wp2_with ((with_reducible refine gate_builtin (b := .append) (xs := #[.tmp 23, .tmp 24]) rfl ?_); at_builtin; refine Kd.R_append_rows k37 (w0 := w) base rfl (.tmp 23) (.tmp 24) 25 37 (.agg #[(.int .i64 0), (.int .i64 0), (.int .i64 0), (.int .i64 0)]) 32 rfl Try.underlying25 info37 rfl (by decide) (by omega) (.slice A l.length c) l [e] _ _ _ (fun _ => True) (fun _ => False) rfl rfl ?aO ?aR (fun _ _ h => h) (fun _ h => h.elim) ?aF ?aB ?aS ?aL ?_; (case aR => exact HC.out); (case aB => exact HB.out); (case aF => exact (fun _ _ => trivial)); (case aO => exact HO.out); (case aS => exact BS.out); (case aL => have := HL.out; show (l.length + 1) * 32 ≤ _; omega); intro v1 w1 ho hb hg hat; have HO1 := Aside0.mk ho; have HB1 := Aside0.mk hb; clear ho hb hg hat)
  all_goals (go_ret; exact ⟨_, rfl, HO1.out, HB1.out⟩)
/-- How two events compare, where the comparison comes to an end in four rounds. -/
def ordV (x e : S37) : Option Int := impl_eventOrder.f 4 x.f0 x.f1 x.f2 x.f3 e.f0 e.f1 e.f2 e.f3
/-- An event does not stand before e. -/
def notB (e x : S37) : Bool := decide (0 ≤ (ordV x e).getD 0)
set_option maxHeartbeats 8000000 in
set_option maxRecDepth 100000 in
theorem po_pred (e : S37) (gb : Nat) (x : S37) (w : World) (hbox : w.heap[gb]? = some (.cells #[.int .i64 e.f0, .int .i64 e.f1, .int .i64 e.f2, .int .i64 e.f3] 37 (0, 0))) (hs : (ordV x e).isSome = true) :
    Calls Try.prog 59 #[.agg #[.int .i64 x.f0, .int .i64 x.f1, .int .i64 x.f2, .int .i64 x.f3], .pointer (some ⟨gb, 0, none⟩)] w fun r w' => r = .returned (.bool (notB e x)) ∧ Below w.heap.size w w' := by
  obtain ⟨o, ho⟩ := Option.isSome_iff_exists.1 hs
  have hb : notB e x = decide (0 ≤ o) := by unfold notB; rw [ho]; rfl
  rw [hb]
  have AO : Aside0 (impl_eventOrder.f 4 x.f0 x.f1 x.f2 x.f3 e.f0 e.f1 e.f2 e.f3 = some o) := ⟨ho⟩
  have HX := Aside0.mk hbox
  have HW := Aside0.mk (Below.refl w.heap.size w)
  have hc0 : w.cell? ⟨gb, 0, none⟩ = some (.int .i64 e.f0) := (blk_cell hbox 0).trans rfl
  have hc1 : w.cell? ⟨gb, 1, none⟩ = some (.int .i64 e.f1) := (blk_cell hbox 1).trans rfl
  have hc2 : w.cell? ⟨gb, 2, none⟩ = some (.int .i64 e.f2) := (blk_cell hbox 2).trans rfl
  have hc3 : w.cell? ⟨gb, 3, none⟩ = some (.int .i64 e.f3) := (blk_cell hbox 3).trans rfl
  have hlt : gb < w.heap.size := blk_lt hbox
  have hne : gb ≠ w.heap.size := by omega
  clear hbox hs ho hb
  go_enter Try.func59, Try.ntmps59
  go_wp2_with (go_at_call 49; (refine (impl_eventOrder.calls 4 x.f0 x.f1 x.f2 x.f3 e.f0 e.f1 e.f2 e.f3 o _ AO.out).mono ?_); rintro r w5 ⟨rfl, hb⟩; have HB5 := Aside0.mk hb; clear hb)
  all_goals (go_ret; exact ⟨by first | rfl | simp_all, below_step (below_alloc (Below.refl _ w) _) HB5.out⟩)
/-- Where the first event stands that does not stand before e. -/
def poIdx (e : S37) (l : List S37) : Int := if l.findIdx (notB e) < l.length then ((l.findIdx (notB e) : Nat) : Int) else -1
set_option maxHeartbeats 8000000 in
set_option maxRecDepth 100000 in
theorem po_index (e : S37) (gb : Nat) (A : Option Addr) (c : Nat) (l : List S37) (w : World) (hC : Kd.C k37 w A l.length l) (hbig : l.length ≤ 9223372036854775807) (hbox : w.heap[gb]? = some (.cells #[.int .i64 e.f0, .int .i64 e.f1, .int .i64 e.f2, .int .i64 e.f3] 37 (0, 0))) (hs : ∀ x ∈ l, (ordV x e).isSome = true) :
    Calls Try.prog 58 #[.slice A l.length c, .func (.func 59) #[] #[.pointer (some ⟨gb, 0, none⟩)]] w fun r w' => r = .returned (.int .i64 (poIdx e l)) ∧ Below w.heap.size w w' := by
  have eg : ∀ args w, (callFunc 59 args).run Try.prog w = .ok (.enter 59 args) w := enters_of Try.func59 (by kernel_rfl) rfl
  have HC := Aside0.mk hC
  have HX := Aside0.mk hbox
  have HS := Aside0.mk hs
  clear hC hbox hs
  have HB := Aside0.mk (Below.refl w.heap.size w)
  go_enter Try.func58, Try.ntmps58
  go_wp2
  go_loopg [5, 8] l.length (fun gg _ s8 wr => ∃ i : Int, s8 = .int .i64 i ∧ Aside0 (0 ≤ i ∧ i ≤ l.length ∧ l.length - i.toNat ≤ gg) ∧ Aside0 (Below w.heap.size w wr) ∧ Aside0 (∀ j (h : j < l.length), j < i.toNat → notB e l[j] = false))
  case atStart => exact ⟨0, by first | rfl | simp, ⟨by omega, by omega, by omega⟩, HB, ⟨fun j h h' => absurd h' (by simp)⟩⟩
  case round =>
    clear HB
    obtain ⟨i, rfl, HI, HB, HN⟩ := hrel
    obtain ⟨h0, h1, hg⟩ := HI.out
    clear HI
    by_cases hlt : i < (l.length : Int)
    · have hltn : i.toNat < l.length := by omega
      have hb0 : decide (i < (l.length : Int)) = true := decide_eq_true hlt
      obtain ⟨ad, ea, hx0, hx1, hx2, hx3⟩ := at_T37 (Kd.C_below HC.out HB.out) i h0 hlt
      cases ea
      have HG := Aside0.mk (And.intro h0 (And.intro h1 hg))
      have HL := Aside0.mk (And.intro hlt hltn)
      have hrd := rdV l i h0 hltn
      replace h0 := eq_true h0
      replace hlt := eq_true hlt
      clear h1 hg
      have hbx := blk_below HX.out HB.out
      have hcall := po_pred e gb (rd_T37 l i) wr hbx (by rw [hrd]; exact HS.out _ (List.getElem_mem hltn))
      clear hbx hltn hrd
      generalize hy : rd_T37 l i = y at hcall hx0 hx1 hx2 hx3
      have HY := Aside0.mk hy
      clear hy
      cases hq : notB e y with
      | true =>
        rw [hq] at hcall
        go_wp2_with (go_at_fn 59; refine hcall.mono ?_; rintro r w' ⟨rfl, hb'⟩)
        go_ret
        refine ⟨?_, below_step HB.out hb'⟩
        have hltn := HL.out.2
        have e1 : l.findIdx (notB e) = i.toNat := by
          rw [List.findIdx_eq hltn]
          refine ⟨?_, fun j hj => HN.out j (by omega) hj⟩
          rw [← rdV l i HG.out.1 hltn, HY.out]
          exact hq
        have := HG.out.1
        unfold poIdx
        rw [e1, if_pos hltn, Int.toNat_of_nonneg HG.out.1]
        rfl
      | false =>
        rw [hq] at hcall
        go_wp2_with (go_at_fn 59; refine hcall.mono ?_; rintro r w' ⟨rfl, hb'⟩)
        go_roundg (l.length - (i + 1).toNat)
        case measure => have := HG.out; have := HL.out; omega
        case rel =>
          have g := HG.out
          have g2 := HL.out
          have ew : wrap64 (i + 1) = i + 1 := by unfold wrap64; omega
          refine ⟨wrap64 (i + 1), (by first | rfl | (simp; done) | (simp [*]; done)), ⟨by omega, by omega, by omega⟩, ⟨below_step HB.out hb'⟩, ⟨fun j h hj => ?_⟩⟩
          rw [ew] at hj
          by_cases ej : j = i.toNat
          · subst ej
            rw [← rdV l i g.1 h, HY.out]
            exact hq
          · exact HN.out j h (by omega)
    · have hb0 : decide (i < (l.length : Int)) = false := decide_eq_false hlt
      have hi : i.toNat = l.length := by omega
      clear hg h0 h1
      go_wp2
      go_ret
      refine ⟨?_, HB.out⟩
      have e1 : l.findIdx (notB e) = l.length := by
        rw [List.findIdx_eq_length]
        intro x hx
        obtain ⟨j, hj, rfl⟩ := List.getElem_of_mem hx
        exact HN.out j hj (by omega)
      unfold poIdx
      rw [e1, if_neg (by omega)]
      rfl
/-- Insert, on each of its roads. -/
theorem pe_insert (base bv i : Nat) (v : Value) (l : List S37) (e : S37) (w : World) (HR : Kd.R k37 37 w base (fun _ => True) v l) (HV : Kd.R k37 37 w base (fun _ => True) (.slice (some ⟨bv, 0, none⟩) 1 1) [e]) (hne : some bv ≠ v.ownBlock) (hi : i ≤ l.length) (hbig : l.length ≤ 4000000000000) (hbs : base ≤ w.heap.size) :
    Calls Try.prog 60 #[v, .int .i64 (i : Int), .slice (some ⟨bv, 0, none⟩) 1 1] w fun r w' => ∃ v0_ : Value, r = .returned v0_ ∧ Kd.R k37 37 w' base (fun _ => True) v0_ (l.take i ++ [e] ++ l.drop i) ∧ Below base w w' := by
  by_cases h : i = l.length
  · subst h
    have := pe_end base bv v l e w HR HV hbig hbs
    rwa [List.take_length, List.drop_length, List.append_nil]
  · obtain ⟨go, c, rfl, hgb, hgl, cl, hcl⟩ := Kd.R_form HR (by omega)
    by_cases hc : c < l.length + 1
    · exact pe_grow base go c i bv l e w HR HV (by omega) hc hbig hbs
    · exact pe_shift base go c i bv l e w HR HV (fun hh => hne (by rw [hh]; rfl)) (by omega) (by omega) hbig hbs
theorem lt_new0 (W : World) (o : Obj) : W.heap.size < (W.alloc o).heap.size := by show W.heap.size < (W.heap.push o).size; rw [Array.size_push]; exact Nat.lt_succ_self _
theorem lt_new1 (W : World) (o : Obj) : W.heap.size < (W.alloc o).drew.heap.size := lt_new0 W o
def impl_PutEvent.f (k : Nat) (l0 : List (S37)) (a1_0 : Int) (a1_1 : Int) (a1_2 : Int) (a1_3 : Int) : Option ((List (S37)) × Bool) := if l0.length < 4000000000000 ∧ l0.all (fun x => (ordV x ⟨a1_0, a1_1, a1_2, a1_3⟩).isSome) = true then ((impl_IsScore.f k (l0.take (l0.findIdx (notB ⟨a1_0, a1_1, a1_2, a1_3⟩)) ++ [⟨a1_0, a1_1, a1_2, a1_3⟩] ++ l0.drop (l0.findIdx (notB ⟨a1_0, a1_1, a1_2, a1_3⟩)))).bind fun s => (if s = true then (some (l0.take (l0.findIdx (notB ⟨a1_0, a1_1, a1_2, a1_3⟩)) ++ [⟨a1_0, a1_1, a1_2, a1_3⟩] ++ l0.drop (l0.findIdx (notB ⟨a1_0, a1_1, a1_2, a1_3⟩)), true)) else (some (l0, false)))) else (none)
theorem impl_PutEvent.mono : ∀ a0 a1_0 a1_1 a1_2 a1_3 k, LeO (impl_PutEvent.f k a0 a1_0 a1_1 a1_2 a1_3) (impl_PutEvent.f (k + 1) a0 a1_0 a1_1 a1_2 a1_3) := by
  intro a0 a1_0 a1_1 a1_2 a1_3 k
  unfold impl_PutEvent.f
  refine LeO.ite ?_ (LeO.none _)
  exact LeO.bind (impl_IsScore.mono _ _) (fun _ => LeO.refl _)
set_option maxHeartbeats 8000000 in
set_option maxRecDepth 100000 in
theorem impl_PutEvent.calls (k : Nat) (A0 : Option Addr) (c0 : Nat) (l0 : List (S37)) (a1_0 : Int) (a1_1 : Int) (a1_2 : Int) (a1_3 : Int) (r1 : List (S37)) (r2 : Bool) (w : World) (hr0 : Kd.C k37 w A0 l0.length l0) (hc0 : l0.length ≤ c0) (h : impl_PutEvent.f k l0 a1_0 a1_1 a1_2 a1_3 = some (r1, r2)) :
    Calls Try.prog 30 #[.slice A0 l0.length c0, .agg #[.int .i64 a1_0, .int .i64 a1_1, .int .i64 a1_2, .int .i64 a1_3]] w fun e w' => ∃ v0_ : Value, e = .returned (.tuple #[v0_, .bool r2]) ∧ Kd.R k37 37 w' w.heap.size (fun _ => True) v0_ r1 ∧ Below w.heap.size w w' := by
  have HR0 := Aside0.mk hr0
  have HC0 := Aside0.mk hc0
  clear hr0 hc0
  have HW := Aside0.mk (Below.refl w.heap.size w)
  unfold impl_PutEvent.f at h
  by_cases hl : l0.length < 4000000000000 ∧ l0.all (fun x => (ordV x ⟨a1_0, a1_1, a1_2, a1_3⟩).isSome) = true
  · rw [if_pos hl] at h
    have HL := Aside0.mk hl.1
    have HS : Aside0 (∀ x ∈ l0, (ordV x ⟨a1_0, a1_1, a1_2, a1_3⟩).isSome = true) := ⟨List.all_eq_true.1 hl.2⟩
    have hcl : impl_Event_53.f l0 = some l0 := by unfold impl_Event_53.f; simp only [Option.bind_some, List.length_nil, List.nil_append]; rw [if_pos (by omega)]
    have HCL := Aside0.mk hcl
    clear hl hcl
    obtain ⟨i, hi⟩ : ∃ i, i = l0.findIdx (notB ⟨a1_0, a1_1, a1_2, a1_3⟩) := ⟨_, rfl⟩
    have hil : i ≤ l0.length := by rw [hi]; exact List.findIdx_le_length
    have hpo : (i < l0.length ∧ poIdx ⟨a1_0, a1_1, a1_2, a1_3⟩ l0 = (i : Int)) ∨ (i = l0.length ∧ poIdx ⟨a1_0, a1_1, a1_2, a1_3⟩ l0 = -1) := by
      unfold poIdx
      rw [← hi]
      by_cases hh : i < l0.length
      · exact .inl ⟨hh, if_pos hh⟩
      · exact .inr ⟨by omega, if_neg hh⟩
    rw [← hi] at h
    clear hi
    obtain ⟨s, as_, h⟩ := Option.bind_eq_some_iff.mp h
    have AS := Aside0.mk as_
    have HIL := Aside0.mk hil
    clear as_ hil
    obtain ⟨p, hp, hpp⟩ : ∃ p, poIdx ⟨a1_0, a1_1, a1_2, a1_3⟩ l0 = p ∧ ((p = (i : Int) ∧ decide (p < 0) = false) ∨ (p = -1 ∧ i = l0.length)) := by
      rcases hpo with ⟨h1, h2⟩ | ⟨h1, h2⟩
      · exact ⟨_, h2, .inl ⟨rfl, decide_eq_false (by omega)⟩⟩
      · exact ⟨_, h2, .inr ⟨rfl, h1⟩⟩
    have HP := Aside0.mk hp
    clear hpo hp
    go_enter Try.func30, Try.ntmps30
    go_upto_if 12 with (first | ((with_reducible refine gate_dst (N := 3) rfl ?_); refine box_event ?hg (N := 3) ?hd (cs := #[.int .i64 a1_0, .int .i64 a1_1, .int .i64 a1_2, .int .i64 a1_3]) (t := 37) ?hr ?_; (case hd => rfl); (case hg => rfl); (case hr => first | (go_simp; done) | (go_simp; rfl)); intro gv hg w3 hbv hb; have n0_ := Aside0.mk (below_step (by repeat (first | (with_reducible first | exact HW.out | apply below_alloc | apply pw_below_drewN | apply below_drew1) | exact HW.out)) hb); clear HW; have HW := n0_; clear n0_; have BV := Aside0.mk hbv; clear hb hg hbv) | (go_at_call 58; (refine (po_index ⟨a1_0, a1_1, a1_2, a1_3⟩ gv A0 c0 l0 _ ?s1 ?s2 ?s3 HS.out).mono ?_); (case s1 => repeat (first | exact (Kd.C_below HR0.out HW.out) | (with_reducible refine Kd.C_alloc ?_ _) | (with_reducible refine Kd.C_drewN ?_ _) | (with_reducible refine Kd.C_drew ?_))); (case s2 => have := HL.out; omega); (case s3 => (with_reducible repeat (first | refine blk_drewN ?_ _ | refine blk_drew ?_ | refine blk_alloc ?_ _)); exact BV.out); rintro r w5 ⟨rfl, hb⟩; have n0_ := Aside0.mk (below_step (by repeat (first | (with_reducible first | exact HW.out | apply below_alloc | apply pw_below_drewN | apply below_drew1) | exact HW.out)) hb); have n1_ := Aside0.mk (blk_below (by (with_reducible repeat (first | refine blk_drewN ?_ _ | refine blk_drew ?_ | refine blk_alloc ?_ _)); exact BV.out) hb); clear HW; clear BV; have HW := n0_; have BV := n1_; clear n0_ n1_ hb; rw [HP.out]))
    go_cut [6] (fun v6 wc => v6 = .int .i64 (i : Int) ∧ Aside0 (wc.heap[gv]? = some (.cells #[.int .i64 a1_0, .int .i64 a1_1, .int .i64 a1_2, .int .i64 a1_3] 37 (0, 0))) ∧ Aside0 (Below w.heap.size w wc))
    case first =>
      rcases hpp with ⟨rfl, hpd⟩ | ⟨rfl, rfl⟩
      · go_wp2
        go_meet
        case rel => exact ⟨by first | rfl | (simp; done), ⟨by (with_reducible repeat (first | refine blk_drewN ?_ _ | refine blk_drew ?_ | refine blk_alloc ?_ _)); exact BV.out⟩, ⟨by repeat (first | (with_reducible first | exact HW.out | apply below_alloc | apply pw_below_drewN | apply below_drew1) | exact HW.out)⟩⟩
      · go_wp2
        go_meet
        case rel => exact ⟨by first | rfl | (simp; done), ⟨by (with_reducible repeat (first | refine blk_drewN ?_ _ | refine blk_drew ?_ | refine blk_alloc ?_ _)); exact BV.out⟩, ⟨by repeat (first | (with_reducible first | exact HW.out | apply below_alloc | apply pw_below_drewN | apply below_drew1) | exact HW.out)⟩⟩
    case rest =>
      obtain ⟨rfl, BV, HW⟩ := hcut
      go_upto_region 4 with (fail)
      go_cut [7] (fun v7 wc2 => Aside0 (Kd.R k37 37 wc2 w.heap.size (fun _ => True) v7 (l0.take i ++ [⟨a1_0, a1_1, a1_2, a1_3⟩] ++ l0.drop i)) ∧ Aside0 (Below w.heap.size w wc2))
      case first =>
        have mixed : Try.prog.follows Departure.mixedOrders = true := by kernel_rfl
        have e53 : ∀ args w, (callFunc 53 args).run Try.prog w = .ok (.enter 53 args) w := enters_of Try.func53 (by kernel_rfl) rfl
        have e60 : ∀ args w, (callFunc 60 args).run Try.prog w = .ok (.enter 60 args) w := enters_of Try.func60 (by kernel_rfl) rfl
        have HC1 : Aside0 (Below w.heap.size w wc.drew) := ⟨below_drew1 HW.out⟩
        have HC2 : Aside0 (Below w.heap.size w wc) := ⟨HW.out⟩
        have hcv0 : wc.cell? ⟨gv, 0, none⟩ = some (.int .i64 a1_0) := (blk_cell BV.out 0).trans rfl
        have hcv1 : wc.cell? ⟨gv, 1, none⟩ = some (.int .i64 a1_1) := (blk_cell BV.out 1).trans rfl
        have hcv2 : wc.cell? ⟨gv, 2, none⟩ = some (.int .i64 a1_2) := (blk_cell BV.out 2).trans rfl
        have hcv3 : wc.cell? ⟨gv, 3, none⟩ = some (.int .i64 a1_3) := (blk_cell BV.out 3).trans rfl
        go_region_with_o (first | (go_at_call 53; (refine (impl_Event_53.calls _ _ l0 l0 _ ?side1 ?side2 HCL.out).mono ?_); (case side1 => repeat (first | exact (Kd.C_below HR0.out HW.out) | (with_reducible refine Kd.C_alloc ?_ _) | (with_reducible refine Kd.C_drewN ?_ _) | (with_reducible refine Kd.C_drew ?_))); (case side2 => exact HC0.out); rintro r w7 ⟨v7, rfl, ho, hb⟩; have HOr := Aside0.mk ho; have HBc := Aside0.mk hb; have n0_ := Aside0.mk (Kd.R_lower ho (below_size (by repeat (first | (with_reducible first | exact HW.out | apply below_alloc | apply pw_below_drewN | apply below_drew1) | exact HW.out)))); have n1_ := Aside0.mk (below_step (by repeat (first | (with_reducible first | exact HW.out | apply below_alloc | apply pw_below_drewN | apply below_drew1) | exact HW.out)) hb); have n2_ := Aside0.mk (blk_below (g := gv) (o := .cells #[.int .i64 a1_0, .int .i64 a1_1, .int .i64 a1_2, .int .i64 a1_3] 37 (0, 0)) (by (with_reducible repeat (first | refine blk_drewN ?_ _ | refine blk_drew ?_ | refine blk_alloc ?_ _)); exact BV.out) hb); clear HW; clear BV; have HO := n0_; have HW := n1_; have BV := n2_; clear n0_ n1_ n2_ hb ho hcv0 hcv1 hcv2 hcv3; have hcv0 : w7.cell? ⟨gv, 0, none⟩ = some (.int .i64 a1_0) := (blk_cell BV.out 0).trans rfl; have hcv1 : w7.cell? ⟨gv, 1, none⟩ = some (.int .i64 a1_1) := (blk_cell BV.out 1).trans rfl; have hcv2 : w7.cell? ⟨gv, 2, none⟩ = some (.int .i64 a1_2) := (blk_cell BV.out 2).trans rfl; have hcv3 : w7.cell? ⟨gv, 3, none⟩ = some (.int .i64 a1_3) := (blk_cell BV.out 3).trans rfl) | (go_at_call 60; (refine (pe_insert w.heap.size _ i v7 l0 ⟨a1_0, a1_1, a1_2, a1_3⟩ _ ?s1 ?s2 ?s3 HIL.out ?s5 ?s6).mono ?_); (case s1 => (with_reducible repeat (first | apply Kd.R_alloc | apply Kd.R_drewN | apply Kd.R_drew)); exact HO.out); (case s2 => refine R_mk4 (x := [⟨a1_0, a1_1, a1_2, a1_3⟩]) #[.int .i64 a1_0, .int .i64 a1_1, .int .i64 a1_2, .int .i64 a1_3] ?h1 ?h2 (Nat.le_refl _) (by unfold maxLen; omega) rfl rfl; (case h1 => first | exact blk_drew (blk_new _ _) | exact blk_new _ _ | exact blk_below (blk_drew (blk_new _ _)) HBc.out | exact blk_below (blk_new _ _) HBc.out); (case h2 => first | exact below_size HC1.out | exact below_size HC2.out | exact below_size (by repeat (first | (with_reducible first | exact HW.out | apply below_alloc | apply pw_below_drewN | apply below_drew1) | exact HW.out)))); (case s3 => intro hh; first | (have := Kd.R_lt HO.out _ hh.symm; omega) | (exact absurd (Kd.R_base HOr.out _ hh.symm) (Nat.not_le.2 (lt_new1 _ _))) | (exact absurd (Kd.R_base HOr.out _ hh.symm) (Nat.not_le.2 (lt_new0 _ _)))); (case s5 => have := HL.out; omega); (case s6 => exact below_size (by repeat (first | (with_reducible first | exact HW.out | apply below_alloc | apply pw_below_drewN | apply below_drew1) | exact HW.out))); rintro r w8 ⟨v8, rfl, ho8, hb8⟩; have HO8 := Aside0.mk ho8; have HB8 := Aside0.mk (Below.trans (by repeat (first | (with_reducible first | exact HW.out | apply below_alloc | apply pw_below_drewN | apply below_drew1) | exact HW.out)) hb8); clear ho8 hb8))
        all_goals (go_wp2; go_meet; case rel => exact ⟨⟨HO8.out⟩, ⟨HB8.out⟩⟩)
      case rest =>
        clear BV HW
        obtain ⟨HO, HW⟩ := hcut
        obtain ⟨o9, ho9⟩ : ∃ o9 : List S37, o9 = (l0.take i ++ [⟨a1_0, a1_1, a1_2, a1_3⟩] ++ l0.drop i) := ⟨_, rfl⟩
        rw [← ho9] at HO AS h
        clear ho9 HS HIL HP hpp
        obtain ⟨A9, c9, e9⟩ := Kd.R_slice HO.out
        subst e9
        have hl9 := (Kd.R_reads' HO.out).1
        cases s with
        | true =>
          simp only [if_true, Option.some.injEq, Prod.mk.injEq] at h
          obtain ⟨rfl, rfl⟩ := h
          go_wp2_with (first | (go_at_call 18; (refine (impl_IsScore.calls k _ _ o9 true _ ?side1 ?side2 AS.out).mono ?_); (case side1 => exact (Kd.R_reads' HO.out).2.2); (case side2 => exact (Kd.R_reads' HO.out).2.1); rintro r w9 ⟨rfl, hb⟩; have n0_ := Aside0.mk (Kd.R_below (by (with_reducible repeat (first | apply Kd.R_alloc | apply Kd.R_drewN | apply Kd.R_drew)); exact HO.out) hb); have n1_ := Aside0.mk (below_step (by repeat (first | (with_reducible first | exact HW.out | apply below_alloc | apply pw_below_drewN | apply below_drew1) | exact HW.out)) hb); clear HO; clear HW; have HO := n0_; have HW := n1_; clear n0_ n1_ hb))
          go_ret2
          exact ⟨_, by first | rfl | (simp; done), by (with_reducible repeat (first | apply Kd.R_alloc | apply Kd.R_drewN | apply Kd.R_drew)); exact HO.out, by repeat (first | (with_reducible first | exact HW.out | apply below_alloc | apply pw_below_drewN | apply below_drew1) | exact HW.out)⟩
        | false =>
          simp only [Bool.false_eq_true, if_false, Option.some.injEq, Prod.mk.injEq] at h
          obtain ⟨rfl, rfl⟩ := h
          go_wp2_with (first | (go_at_call 18; (refine (impl_IsScore.calls k _ _ o9 false _ ?side1 ?side2 AS.out).mono ?_); (case side1 => exact (Kd.R_reads' HO.out).2.2); (case side2 => exact (Kd.R_reads' HO.out).2.1); rintro r w9 ⟨rfl, hb⟩; have n0_ := Aside0.mk (Kd.R_below (by (with_reducible repeat (first | apply Kd.R_alloc | apply Kd.R_drewN | apply Kd.R_drew)); exact HO.out) hb); have n1_ := Aside0.mk (below_step (by repeat (first | (with_reducible first | exact HW.out | apply below_alloc | apply pw_below_drewN | apply below_drew1) | exact HW.out)) hb); clear HO; clear HW; have HO := n0_; have HW := n1_; clear n0_ n1_ hb) | (go_at_call 53; (refine (impl_Event_53.calls _ _ l0 l0 _ ?side1 ?side2 HCL.out).mono ?_); (case side1 => repeat (first | exact (Kd.C_below HR0.out HW.out) | (with_reducible refine Kd.C_alloc ?_ _) | (with_reducible refine Kd.C_drewN ?_ _) | (with_reducible refine Kd.C_drew ?_))); (case side2 => exact HC0.out); rintro r w7 ⟨v7, rfl, ho, hb⟩; have HO7 := Aside0.mk (Kd.R_lower ho (below_size (by repeat (first | (with_reducible first | exact HW.out | apply below_alloc | apply pw_below_drewN | apply below_drew1) | exact HW.out)))); have n1_ := Aside0.mk (below_step (by repeat (first | (with_reducible first | exact HW.out | apply below_alloc | apply pw_below_drewN | apply below_drew1) | exact HW.out)) hb); clear HW; have HW := n1_; clear n1_ hb ho))
          go_ret2
          exact ⟨_, by first | rfl | (simp; done), by (with_reducible repeat (first | apply Kd.R_alloc | apply Kd.R_drewN | apply Kd.R_drew)); exact HO7.out, by repeat (first | (with_reducible first | exact HW.out | apply below_alloc | apply pw_below_drewN | apply below_drew1) | exact HW.out)⟩
  · rw [if_neg hl] at h
    exact absurd h (by simp)

end Go.Proofs.Ytmacgllblbeegaa.F

-- Written for this claim by the kit's print.py out of the translation, called by wip/tools/fprint.py. Lean checks it.
namespace Go.Proofs.Ytmacgllblbeegaa.F
open Go.RowKit Go.Proofs.YtmacgllblbeegaaW.PrintWords Go.Proofs.YtmacgllblbeegaaW.PrintLast Go.Proofs.YtmacgllblbeegaaW.PrintMore
attribute [local go_sem] max2_int min2_int max_two min_two max_three min_three max_four min_four   -- for this text's walks alone
set_option linter.unusedVariables false
set_option linter.unusedSimpArgs false

/-! ### laws_FnExactPutEvent: function 7 -/
mutual
def laws_FnExactPutEvent.j0 : Nat → List (S34) → List (S37) → Bool → List (S37) → List (S37) → Bool → Bool → Int → Int → Int → Int → Option (Bool)
  | 0, _, _, _, _, _, _, _, _, _, _, _ => none
  | k + 1, x0, x6, x7, x8, x9, x10, x46, x385000, x385001, x385002, x385003 => if x46 = true then (some false) else ((laws_toEventS.f k x0).bind fun t409 => ((laws_eqEventS.f k x8 t409).bind fun t412 => (if t412 = true then ((laws_markEventS.f k x8 1).bind fun bt413 => (if bt413.1 < 0 then (laws_FnExactPutEvent.j1 k x0 x6 x7 x9 true x385000 x385001 x385002 x385003) else ((laws_eqEventS.f k x9 x6).bind fun t415 => (if t415 = true then (laws_FnExactPutEvent.j1 k x0 x6 x7 x9 (x10 != x7) x385000 x385001 x385002 x385003) else (laws_FnExactPutEvent.j1 k x0 x6 x7 x9 true x385000 x385001 x385002 x385003))))) else (some false))))
def laws_FnExactPutEvent.j1 : Nat → List (S34) → List (S37) → Bool → List (S37) → Bool → Int → Int → Int → Int → Option (Bool)
  | 0, _, _, _, _, _, _, _, _, _ => none
  | k + 1, x0, x6, x7, x9, x67, x385000, x385001, x385002, x385003 => if x67 = true then (some false) else ((laws_markEventS.f k x9 1).bind fun bt416 => ((laws_heldEventS.f k bt416.2 1).bind fun t418 => (if t418 < 0 then (some false) else (if t418 = bt416.1 then ((laws_toEventS.f k x0).bind fun t419 => ((laws_toEvent.f x385000 x385001 x385002 x385003).bind fun bt422 => ((impl_PutEvent.f k t419 bt422.1 bt422.2.1 bt422.2.2.1 bt422.2.2.2).bind fun bt426 => ((laws_eqEventS.f k bt426.1 x6).bind fun t430 => (if t430 = true then (laws_FnExactPutEvent.j2 k bt416.2 bt416.1 (bt426.2 != x7)) else (laws_FnExactPutEvent.j2 k bt416.2 bt416.1 true)))))) else (some false)))))
def laws_FnExactPutEvent.j2 : Nat → List (S37) → Int → Bool → Option (Bool)
  | 0, _, _, _ => none
  | k + 1, x9, x12, x95 => if x95 = true then (some false) else ((laws_heldEventS.f k x9 1).bind fun t431 => (if t431 < 0 then (some false) else (if t431 = x12 then (some true) else (some false))))
end
def laws_FnExactPutEvent.f (k : Nat) (l0 : List (S34)) (a1_0 : Int) (a1_1 : Int) (a1_2 : Int) (a1_3 : Int) : Option (Bool) := (laws_szEventS.f l0 1048576).bind fun t385 => (if t385 < 0 then (some true) else ((laws_toEventS.f k l0).bind fun t386 => ((laws_toEvent.f a1_0 a1_1 a1_2 a1_3).bind fun bt389 => ((spec_PutEvent.f k t386 bt389.1 bt389.2.1 bt389.2.2.1 bt389.2.2.2).bind fun bt393 => ((laws_toEventS.f k l0).bind fun t397 => ((laws_toEvent.f a1_0 a1_1 a1_2 a1_3).bind fun bt400 => ((impl_PutEvent.f k t397 bt400.1 bt400.2.1 bt400.2.2.1 bt400.2.2.2).bind fun bt404 => ((laws_eqEventS.f k bt404.1 bt393.1).bind fun t408 => (if t408 = true then (laws_FnExactPutEvent.j0 k l0 bt393.1 bt393.2 t397 bt404.1 bt404.2 (bt404.2 != bt393.2) a1_0 a1_1 a1_2 a1_3) else (laws_FnExactPutEvent.j0 k l0 bt393.1 bt393.2 t397 bt404.1 bt404.2 true a1_0 a1_1 a1_2 a1_3))))))))))
theorem laws_FnExactPutEvent.mono_l : ∀ k, (∀ y0 y1 y2 y3 y4 y5 y6 y7 y8 y9 y10, LeO (laws_FnExactPutEvent.j0 k y0 y1 y2 y3 y4 y5 y6 y7 y8 y9 y10) (laws_FnExactPutEvent.j0 (k + 1) y0 y1 y2 y3 y4 y5 y6 y7 y8 y9 y10)) ∧ (∀ y0 y1 y2 y3 y4 y5 y6 y7 y8, LeO (laws_FnExactPutEvent.j1 k y0 y1 y2 y3 y4 y5 y6 y7 y8) (laws_FnExactPutEvent.j1 (k + 1) y0 y1 y2 y3 y4 y5 y6 y7 y8)) ∧ (∀ y0 y1 y2, LeO (laws_FnExactPutEvent.j2 k y0 y1 y2) (laws_FnExactPutEvent.j2 (k + 1) y0 y1 y2))
  | 0 => ⟨fun _ _ _ _ _ _ _ _ _ _ _ r h => by simp [laws_FnExactPutEvent.j0] at h, fun _ _ _ _ _ _ _ _ _ r h => by simp [laws_FnExactPutEvent.j1] at h, fun _ _ _ r h => by simp [laws_FnExactPutEvent.j2] at h⟩
  | k + 1 => by
    obtain ⟨ih0, ih1, ih2⟩ := laws_FnExactPutEvent.mono_l k
    refine ⟨?_, ?_, ?_⟩
    · intro y0 y1 y2 y3 y4 y5 y6 y7 y8 y9 y10
      unfold laws_FnExactPutEvent.j0
      repeat' first
      | (with_reducible exact ih0 _ _ _ _ _ _ _ _ _ _ _)
      | (with_reducible exact ih1 _ _ _ _ _ _ _ _ _)
      | (with_reducible exact ih2 _ _ _)
      | (with_reducible exact impl_PutEvent.mono _ _ _ _ _ _)
      | (with_reducible exact laws_eqEventS.mono _ _ _)
      | (with_reducible exact laws_heldEventS.mono _ _ _)
      | (with_reducible exact laws_markEventS.mono _ _ _)
      | (with_reducible exact laws_toEventS.mono _ _)
      | (with_reducible exact spec_PutEvent.mono _ _ _ _ _ _)
      | (with_reducible exact LeO.refl _)
      | (with_reducible exact LeO.none _)
      | (with_reducible refine LeO.ite ?_ ?_)
      | (with_reducible refine LeO.bind ?_ (fun _ => ?_))
      | exact ih0 _ _ _ _ _ _ _ _ _ _ _
      | exact ih1 _ _ _ _ _ _ _ _ _
      | exact ih2 _ _ _
      | exact impl_PutEvent.mono _ _ _ _ _ _
      | exact laws_eqEventS.mono _ _ _
      | exact laws_heldEventS.mono _ _ _
      | exact laws_markEventS.mono _ _ _
      | exact laws_toEventS.mono _ _
      | exact spec_PutEvent.mono _ _ _ _ _ _
      | exact LeO.none _
      | refine LeO.ite ?_ ?_
      | refine LeO.bind ?_ (fun _ => ?_)
    · intro y0 y1 y2 y3 y4 y5 y6 y7 y8
      unfold laws_FnExactPutEvent.j1
      repeat' first
      | (with_reducible exact ih0 _ _ _ _ _ _ _ _ _ _ _)
      | (with_reducible exact ih1 _ _ _ _ _ _ _ _ _)
      | (with_reducible exact ih2 _ _ _)
      | (with_reducible exact impl_PutEvent.mono _ _ _ _ _ _)
      | (with_reducible exact laws_eqEventS.mono _ _ _)
      | (with_reducible exact laws_heldEventS.mono _ _ _)
      | (with_reducible exact laws_markEventS.mono _ _ _)
      | (with_reducible exact laws_toEventS.mono _ _)
      | (with_reducible exact spec_PutEvent.mono _ _ _ _ _ _)
      | (with_reducible exact LeO.refl _)
      | (with_reducible exact LeO.none _)
      | (with_reducible refine LeO.ite ?_ ?_)
      | (with_reducible refine LeO.bind ?_ (fun _ => ?_))
      | exact ih0 _ _ _ _ _ _ _ _ _ _ _
      | exact ih1 _ _ _ _ _ _ _ _ _
      | exact ih2 _ _ _
      | exact impl_PutEvent.mono _ _ _ _ _ _
      | exact laws_eqEventS.mono _ _ _
      | exact laws_heldEventS.mono _ _ _
      | exact laws_markEventS.mono _ _ _
      | exact laws_toEventS.mono _ _
      | exact spec_PutEvent.mono _ _ _ _ _ _
      | exact LeO.none _
      | refine LeO.ite ?_ ?_
      | refine LeO.bind ?_ (fun _ => ?_)
    · intro y0 y1 y2
      unfold laws_FnExactPutEvent.j2
      repeat' first
      | (with_reducible exact ih0 _ _ _ _ _ _ _ _ _ _ _)
      | (with_reducible exact ih1 _ _ _ _ _ _ _ _ _)
      | (with_reducible exact ih2 _ _ _)
      | (with_reducible exact impl_PutEvent.mono _ _ _ _ _ _)
      | (with_reducible exact laws_eqEventS.mono _ _ _)
      | (with_reducible exact laws_heldEventS.mono _ _ _)
      | (with_reducible exact laws_markEventS.mono _ _ _)
      | (with_reducible exact laws_toEventS.mono _ _)
      | (with_reducible exact spec_PutEvent.mono _ _ _ _ _ _)
      | (with_reducible exact LeO.refl _)
      | (with_reducible exact LeO.none _)
      | (with_reducible refine LeO.ite ?_ ?_)
      | (with_reducible refine LeO.bind ?_ (fun _ => ?_))
      | exact ih0 _ _ _ _ _ _ _ _ _ _ _
      | exact ih1 _ _ _ _ _ _ _ _ _
      | exact ih2 _ _ _
      | exact impl_PutEvent.mono _ _ _ _ _ _
      | exact laws_eqEventS.mono _ _ _
      | exact laws_heldEventS.mono _ _ _
      | exact laws_markEventS.mono _ _ _
      | exact laws_toEventS.mono _ _
      | exact spec_PutEvent.mono _ _ _ _ _ _
      | exact LeO.none _
      | refine LeO.ite ?_ ?_
      | refine LeO.bind ?_ (fun _ => ?_)
theorem laws_FnExactPutEvent.mono : ∀ a0 a1 a2 a3 a4 k, LeO (laws_FnExactPutEvent.f k a0 a1 a2 a3 a4) (laws_FnExactPutEvent.f (k + 1) a0 a1 a2 a3 a4) := by
  intro a0 a1 a2 a3 a4 k
  obtain ⟨ih0, ih1, ih2⟩ := laws_FnExactPutEvent.mono_l k
  unfold laws_FnExactPutEvent.f
  repeat' first
      | (with_reducible exact ih0 _ _ _ _ _ _ _ _ _ _ _)
      | (with_reducible exact ih1 _ _ _ _ _ _ _ _ _)
      | (with_reducible exact ih2 _ _ _)
      | (with_reducible exact impl_PutEvent.mono _ _ _ _ _ _)
      | (with_reducible exact laws_eqEventS.mono _ _ _)
      | (with_reducible exact laws_heldEventS.mono _ _ _)
      | (with_reducible exact laws_markEventS.mono _ _ _)
      | (with_reducible exact laws_toEventS.mono _ _)
      | (with_reducible exact spec_PutEvent.mono _ _ _ _ _ _)
      | (with_reducible exact LeO.refl _)
      | (with_reducible exact LeO.none _)
      | (with_reducible refine LeO.ite ?_ ?_)
      | (with_reducible refine LeO.bind ?_ (fun _ => ?_))
      | exact ih0 _ _ _ _ _ _ _ _ _ _ _
      | exact ih1 _ _ _ _ _ _ _ _ _
      | exact ih2 _ _ _
      | exact impl_PutEvent.mono _ _ _ _ _ _
      | exact laws_eqEventS.mono _ _ _
      | exact laws_heldEventS.mono _ _ _
      | exact laws_markEventS.mono _ _ _
      | exact laws_toEventS.mono _ _
      | exact spec_PutEvent.mono _ _ _ _ _ _
      | exact LeO.none _
      | refine LeO.ite ?_ ?_
      | refine LeO.bind ?_ (fun _ => ?_)
def laws_FnExactPutEvent.T5 : Bool × List (List Nat × List Nat) := (true, [([], []), ([0], [0]), ([], []), ([2, 1], [2]), ([1, 3, 3], [1, 3]), ([4], [4]), ([5], [5]), ([5], [5]), ([6, 4, 0, 1, 2, 3, 4, 5, 6], [6]), ([7, 8, 0, 1, 2, 3, 4, 5, 6, 7, 8], [7])])
def laws_FnExactPutEvent.B5 : List Nat := [0, 1, 0, 7, 15, 31, 63, 63, 127, 511]
theorem laws_FnExactPutEvent.tab5 : rtab .any (opsOf Try.f7 5) = laws_FnExactPutEvent.T5 := by kernel_rfl
theorem laws_FnExactPutEvent.bits5 : waitsOk laws_FnExactPutEvent.T5.2 laws_FnExactPutEvent.B5 = true := by kernel_rfl
def laws_FnExactPutEvent.T24 : Bool × List (List Nat × List Nat) := (true, [([], []), ([0], [0]), ([], []), ([2, 1], [2]), ([1, 3, 3], [1, 3]), ([4], [4]), ([5], [5]), ([5], [5]), ([6, 4, 0, 1, 2, 3, 4, 5, 6], [6]), ([7, 8, 0, 1, 2, 3, 4, 5, 6, 7, 8], [7])])
def laws_FnExactPutEvent.B24 : List Nat := [0, 1, 0, 7, 15, 31, 63, 63, 127, 511]
theorem laws_FnExactPutEvent.tab24 : rtab .any (opsOf Try.f7 24) = laws_FnExactPutEvent.T24 := by kernel_rfl
theorem laws_FnExactPutEvent.bits24 : waitsOk laws_FnExactPutEvent.T24.2 laws_FnExactPutEvent.B24 = true := by kernel_rfl
set_option maxHeartbeats 8000000 in
set_option maxRecDepth 100000 in
theorem laws_FnExactPutEvent.calls (k : Nat) (A0 : Option Addr) (c0 : Nat) (l0 : List (S34)) (a1_0 : Int) (a1_1 : Int) (a1_2 : Int) (a1_3 : Int) (r : Bool) (w : World) (hr0 : Kd.C k34 w A0 l0.length l0) (hc0 : l0.length ≤ c0) (h : laws_FnExactPutEvent.f k l0 a1_0 a1_1 a1_2 a1_3 = some r) :
    Calls Try.prog 7 #[.slice A0 l0.length c0, .agg #[.int .i64 a1_0, .int .i64 a1_1, .int .i64 a1_2, .int .i64 a1_3]] w fun e w' => e = .returned (.bool r) ∧ Below w.heap.size w w' := by
  have hu34 := Try.underlying34
  have HR0 := Aside0.mk hr0
  have HC0 := Aside0.mk hc0
  clear hr0 hc0
  have HB := Aside0.mk (Below.refl w.heap.size w)
  have H : ((laws_szEventS.f l0 1048576).bind fun t385 => (if t385 < 0 then (some true) else ((laws_toEventS.f k l0).bind fun t386 => ((laws_toEvent.f a1_0 a1_1 a1_2 a1_3).bind fun bt389 => ((spec_PutEvent.f k t386 bt389.1 bt389.2.1 bt389.2.2.1 bt389.2.2.2).bind fun bt393 => ((laws_toEventS.f k l0).bind fun t397 => ((laws_toEvent.f a1_0 a1_1 a1_2 a1_3).bind fun bt400 => ((impl_PutEvent.f k t397 bt400.1 bt400.2.1 bt400.2.2.1 bt400.2.2.2).bind fun bt404 => ((laws_eqEventS.f k bt404.1 bt393.1).bind fun t408 => (if t408 = true then (laws_FnExactPutEvent.j0 k l0 bt393.1 bt393.2 t397 bt404.1 bt404.2 (bt404.2 != bt393.2) a1_0 a1_1 a1_2 a1_3) else (laws_FnExactPutEvent.j0 k l0 bt393.1 bt393.2 t397 bt404.1 bt404.2 true a1_0 a1_1 a1_2 a1_3))))))))))) = some r := h
  clear h
  replace H := Option.bind_eq_some_iff.mp H
  obtain ⟨t385, A30, H⟩ := H
  replace H : (if t385 < 0 then (some true) else ((laws_toEventS.f k l0).bind fun t386 => ((laws_toEvent.f a1_0 a1_1 a1_2 a1_3).bind fun bt389 => ((spec_PutEvent.f k t386 bt389.1 bt389.2.1 bt389.2.2.1 bt389.2.2.2).bind fun bt393 => ((laws_toEventS.f k l0).bind fun t397 => ((laws_toEvent.f a1_0 a1_1 a1_2 a1_3).bind fun bt400 => ((impl_PutEvent.f k t397 bt400.1 bt400.2.1 bt400.2.2.1 bt400.2.2.2).bind fun bt404 => ((laws_eqEventS.f k bt404.1 bt393.1).bind fun t408 => (if t408 = true then (laws_FnExactPutEvent.j0 k l0 bt393.1 bt393.2 t397 bt404.1 bt404.2 (bt404.2 != bt393.2) a1_0 a1_1 a1_2 a1_3) else (laws_FnExactPutEvent.j0 k l0 bt393.1 bt393.2 t397 bt404.1 bt404.2 true a1_0 a1_1 a1_2 a1_3)))))))))) = some r := H
  have A3 := Aside0.mk A30
  clear A30
  by_cases c4 : t385 < 0
  · rw [if_pos c4] at H
    have c4b0 : decide (t385 < 0) = true := decide_eq_true c4
    clear c4
    obtain rfl := Option.some.inj H
    go_enter Try.func7, Try.ntmps7
    go_wp2_with (first | ((with_reducible refine gate_dst (N := 3) rfl ?_); refine box_event ?hg (N := 3) ?hd (cs := #[.int .i64 a1_0, .int .i64 a1_1, .int .i64 a1_2, .int .i64 a1_3]) (t := 34) ?hr ?_; (case hd => rfl); (case hg => rfl); (case hr => first | (go_simp; done) | (go_simp; rfl)); intro gb384 hg w5 hbox hb; have n0_ := Aside0.mk (below_step (by repeat (first | (with_reducible first | exact HB.out | apply below_alloc | apply pw_below_drewN | apply below_drew1) | exact HB.out)) hb); have n1_ := Aside0.mk (hbox); have n2_ := Aside0.mk ((by rw [hg]; exact (below_size (by repeat (first | (with_reducible first | exact HB.out | apply below_alloc | apply pw_below_drewN | apply below_drew1) | exact HB.out))) : w.heap.size ≤ gb384)); have n3_ := Aside0.mk ((by rw [hg]; exact (below_size (by repeat (first | (with_reducible first | exact HB.out | apply below_alloc | apply pw_below_drewN | apply below_drew1) | exact HB.out))) : w.heap.size ≤ gb384)); clear HB; have HB := n0_; have BK384 := n1_; have GW384 := n2_; have GE384 := n3_; clear n0_ n1_ n2_ n3_; clear hb hbox hg) | ((with_reducible refine gate_callee (f := 15) rfl ?_); refine goesL_ (some 18) rfl rfl Try.func15 (by kernel_rfl) rfl #[.slice A0 l0.length c0, .int .i64 1048576] rfl (by (try simp only [List.map_toArray, List.map_cons, List.map_nil]); first | done | rfl | (simp only [List.length_drop, List.length_take]; rfl)) ?_; (with_reducible refine (laws_szEventS.calls _ _ l0 1048576 t385 _ ?side1 ?side2 A3.out).mono ?_); (case side1 => repeat (first | exact (Kd.C_below HR0.out HB.out) | (with_reducible refine Kd.C_alloc ?_ _) | (with_reducible refine Kd.C_drewN ?_ _) | (with_reducible refine Kd.C_drew ?_))); (case side2 => exact HC0.out); rintro e w' ⟨rfl, ⟨nd, rfl⟩⟩; refine ⟨_, rfl, ?_⟩))
    go_ret
    exact ⟨by first | rfl | (simp [errW_none, errW_some] <;> rfl) | (simp [*, errW_none, errW_some] <;> rfl), by repeat (first | (with_reducible first | exact HB.out | apply below_alloc | apply pw_below_drewN | apply below_drew1 | refine below_set ?_ GE384.out) | exact HB.out)⟩
  · rw [if_neg c4] at H
    have c4b0 : decide (t385 < 0) = false := decide_eq_false c4
    clear c4
    replace H := Option.bind_eq_some_iff.mp H
    obtain ⟨t386, A60, H⟩ := H
    replace H : ((laws_toEvent.f a1_0 a1_1 a1_2 a1_3).bind fun bt389 => ((spec_PutEvent.f k t386 bt389.1 bt389.2.1 bt389.2.2.1 bt389.2.2.2).bind fun bt393 => ((laws_toEventS.f k l0).bind fun t397 => ((laws_toEvent.f a1_0 a1_1 a1_2 a1_3).bind fun bt400 => ((impl_PutEvent.f k t397 bt400.1 bt400.2.1 bt400.2.2.1 bt400.2.2.2).bind fun bt404 => ((laws_eqEventS.f k bt404.1 bt393.1).bind fun t408 => (if t408 = true then (laws_FnExactPutEvent.j0 k l0 bt393.1 bt393.2 t397 bt404.1 bt404.2 (bt404.2 != bt393.2) a1_0 a1_1 a1_2 a1_3) else (laws_FnExactPutEvent.j0 k l0 bt393.1 bt393.2 t397 bt404.1 bt404.2 true a1_0 a1_1 a1_2 a1_3)))))))) = some r := H
    have A6 := Aside0.mk A60
    clear A60
    replace H := Option.bind_eq_some_iff.mp H
    obtain ⟨⟨t389, t390, t391, t392⟩, A70, H⟩ := H
    replace H : ((spec_PutEvent.f k t386 t389 t390 t391 t392).bind fun bt393 => ((laws_toEventS.f k l0).bind fun t397 => ((laws_toEvent.f a1_0 a1_1 a1_2 a1_3).bind fun bt400 => ((impl_PutEvent.f k t397 bt400.1 bt400.2.1 bt400.2.2.1 bt400.2.2.2).bind fun bt404 => ((laws_eqEventS.f k bt404.1 bt393.1).bind fun t408 => (if t408 = true then (laws_FnExactPutEvent.j0 k l0 bt393.1 bt393.2 t397 bt404.1 bt404.2 (bt404.2 != bt393.2) a1_0 a1_1 a1_2 a1_3) else (laws_FnExactPutEvent.j0 k l0 bt393.1 bt393.2 t397 bt404.1 bt404.2 true a1_0 a1_1 a1_2 a1_3))))))) = some r := H
    have A7 := Aside0.mk A70
    clear A70
    replace H := Option.bind_eq_some_iff.mp H
    obtain ⟨⟨t393, t396⟩, A80, H⟩ := H
    replace H : ((laws_toEventS.f k l0).bind fun t397 => ((laws_toEvent.f a1_0 a1_1 a1_2 a1_3).bind fun bt400 => ((impl_PutEvent.f k t397 bt400.1 bt400.2.1 bt400.2.2.1 bt400.2.2.2).bind fun bt404 => ((laws_eqEventS.f k bt404.1 t393).bind fun t408 => (if t408 = true then (laws_FnExactPutEvent.j0 k l0 t393 t396 t397 bt404.1 bt404.2 (bt404.2 != t396) a1_0 a1_1 a1_2 a1_3) else (laws_FnExactPutEvent.j0 k l0 t393 t396 t397 bt404.1 bt404.2 true a1_0 a1_1 a1_2 a1_3)))))) = some r := H
    have A8 := Aside0.mk A80
    clear A80
    replace H := Option.bind_eq_some_iff.mp H
    obtain ⟨t397, A90, H⟩ := H
    replace H : ((laws_toEvent.f a1_0 a1_1 a1_2 a1_3).bind fun bt400 => ((impl_PutEvent.f k t397 bt400.1 bt400.2.1 bt400.2.2.1 bt400.2.2.2).bind fun bt404 => ((laws_eqEventS.f k bt404.1 t393).bind fun t408 => (if t408 = true then (laws_FnExactPutEvent.j0 k l0 t393 t396 t397 bt404.1 bt404.2 (bt404.2 != t396) a1_0 a1_1 a1_2 a1_3) else (laws_FnExactPutEvent.j0 k l0 t393 t396 t397 bt404.1 bt404.2 true a1_0 a1_1 a1_2 a1_3))))) = some r := H
    have A9 := Aside0.mk A90
    clear A90
    replace H := Option.bind_eq_some_iff.mp H
    obtain ⟨⟨t400, t401, t402, t403⟩, A100, H⟩ := H
    replace H : ((impl_PutEvent.f k t397 t400 t401 t402 t403).bind fun bt404 => ((laws_eqEventS.f k bt404.1 t393).bind fun t408 => (if t408 = true then (laws_FnExactPutEvent.j0 k l0 t393 t396 t397 bt404.1 bt404.2 (bt404.2 != t396) a1_0 a1_1 a1_2 a1_3) else (laws_FnExactPutEvent.j0 k l0 t393 t396 t397 bt404.1 bt404.2 true a1_0 a1_1 a1_2 a1_3)))) = some r := H
    have A10 := Aside0.mk A100
    clear A100
    replace H := Option.bind_eq_some_iff.mp H
    obtain ⟨⟨t404, t407⟩, A110, H⟩ := H
    replace H : ((laws_eqEventS.f k t404 t393).bind fun t408 => (if t408 = true then (laws_FnExactPutEvent.j0 k l0 t393 t396 t397 t404 t407 (t407 != t396) a1_0 a1_1 a1_2 a1_3) else (laws_FnExactPutEvent.j0 k l0 t393 t396 t397 t404 t407 true a1_0 a1_1 a1_2 a1_3))) = some r := H
    have A11 := Aside0.mk A110
    clear A110
    have HC12 := Aside0.mk H
    clear H
    go_enter Try.func7, Try.ntmps7
    try go_wp2_with (first | ((with_reducible refine gate_dst (N := 3) rfl ?_); refine box_event ?hg (N := 3) ?hd (cs := #[.int .i64 a1_0, .int .i64 a1_1, .int .i64 a1_2, .int .i64 a1_3]) (t := 34) ?hr ?_; (case hd => rfl); (case hg => rfl); (case hr => first | (go_simp; done) | (go_simp; rfl)); intro gb384 hg w13 hbox hb; have n0_ := Aside0.mk (below_step (by repeat (first | (with_reducible first | exact HB.out | apply below_alloc | apply pw_below_drewN | apply below_drew1) | exact HB.out)) hb); have n1_ := Aside0.mk (hbox); have n2_ := Aside0.mk ((by rw [hg]; exact (below_size (by repeat (first | (with_reducible first | exact HB.out | apply below_alloc | apply pw_below_drewN | apply below_drew1) | exact HB.out))) : w.heap.size ≤ gb384)); have n3_ := Aside0.mk ((by rw [hg]; exact (below_size (by repeat (first | (with_reducible first | exact HB.out | apply below_alloc | apply pw_below_drewN | apply below_drew1) | exact HB.out))) : w.heap.size ≤ gb384)); clear HB; have HB := n0_; have BK384 := n1_; have GW384 := n2_; have GE384 := n3_; clear n0_ n1_ n2_ n3_; clear hb hbox hg) | ((with_reducible refine gate_callee (f := 15) rfl ?_); refine goesL_ (some 18) rfl rfl Try.func15 (by kernel_rfl) rfl #[.slice A0 l0.length c0, .int .i64 1048576] rfl (by (try simp only [List.map_toArray, List.map_cons, List.map_nil]); first | done | rfl | (simp only [List.length_drop, List.length_take]; rfl)) ?_; (with_reducible refine (laws_szEventS.calls _ _ l0 1048576 t385 _ ?side1 ?side2 A3.out).mono ?_); (case side1 => repeat (first | exact (Kd.C_below HR0.out HB.out) | (with_reducible refine Kd.C_alloc ?_ _) | (with_reducible refine Kd.C_drewN ?_ _) | (with_reducible refine Kd.C_drew ?_))); (case side2 => exact HC0.out); rintro e w' ⟨rfl, ⟨nd, rfl⟩⟩; refine ⟨_, rfl, ?_⟩))
    (try (rw [drewN_self w13]; generalize hq_ : World.drewN w13 _ = w13; have n0_ : Aside0 (w13.heap[gb384]? = some (.cells #[.int .i64 a1_0, .int .i64 a1_1, .int .i64 a1_2, .int .i64 a1_3] 34 (0, 0))) := ⟨by rw [← hq_]; exact (by (with_reducible repeat (first | refine blk_drewN ?_ _ | refine blk_drew ?_ | refine blk_alloc ?_ _)); exact BK384.out)⟩; have n1_ : Aside0 (Below w.heap.size w w13) := ⟨by rw [← hq_]; exact (by repeat (first | (with_reducible first | exact HB.out | apply below_alloc | apply pw_below_drewN | apply below_drew1 | refine below_set ?_ GE384.out) | exact HB.out))⟩; clear BK384 HB hq_; have BK384 := n0_; have HB := n1_; clear n0_ n1_))
    have n0_ := Aside0.mk (blk_drew BK384.out)
    have n1_ := Aside0.mk (below_drew1 HB.out)
    clear BK384
    clear HB
    have BK384 := n0_
    have HB := n1_
    clear n0_ n1_
    refine start_ (n := 10) (S := fun w' => w'.cell? ⟨gb384, 0, none⟩ = some (.int .i64 a1_0) ∧ w'.cell? ⟨gb384, 1, none⟩ = some (.int .i64 a1_1) ∧ w'.cell? ⟨gb384, 2, none⟩ = some (.int .i64 a1_2) ∧ w'.cell? ⟨gb384, 3, none⟩ = some (.int .i64 a1_3)) (ds := []) #[false, false, false, false, false, false, false, false, false, false] (by kernel_rfl) rfl rfl ⟨(blk_cell BK384.out 0).trans rfl, (blk_cell BK384.out 1).trans rfl, (blk_cell BK384.out 2).trans rfl, (blk_cell BK384.out 3).trans rfl⟩ (fun hHeld => ?_); refine with_tabW laws_FnExactPutEvent.tab5 laws_FnExactPutEvent.bits5 (fun HT_ HW_ => ?_)
    generalize w13.drew = w14 at BK384 HB hHeld ⊢
    refine pure_ (i := 0) (N := some 22) (v := ?_) (a' := ?_) #[true, false, false, false, false, false, false, false, false, false] rfl rfl (any_of HT_.out (by kernel_rfl)) (fun _ _ _ h => h) (Or.inl ⟨by rfl, ?_⟩) ?_ ?_
    rotate_left
    · intro w'
      go_simp
      with_reducible rfl
    rotate_left
    · simp only [Act.put, List.setIfInBounds_toArray, List.set_cons_zero, List.set_cons_succ, i64_w, i32_w]
      rfl
    refine take_ (i := 2) (N := some 24) (v := ?_) (a' := ?_) #[true, false, true, false, false, false, false, false, false, false] rfl rfl (take_ofW HT_.out HW_.out (by kernel_rfl)) (fun _ _ _ h => h) (Or.inl ⟨by rfl, ?_⟩) hHeld ?_ ?_
    rotate_left
    · rintro w' ⟨s0, s1, s2, s3⟩
      go_simp
      with_reducible rfl
    rotate_left
    · simp only [Act.put, List.setIfInBounds_toArray, List.set_cons_zero, List.set_cons_succ, i64_w, i32_w]
      rfl
    refine one_ (i := 1) (N := some 23) #[true, true, true, false, false, false, false, false, false, false] rfl rfl (one_of HT_.out (by kernel_rfl)) (by decide) (fun K hK => ?_)
    refine goes_ Try.func17 (by kernel_rfl) rfl #[.slice A0 l0.length c0] (by rfl) rfl rfl (by (try simp only [List.map_toArray, List.map_cons, List.map_nil]); first | done | rfl | (simp only [List.length_drop, List.length_take]; rfl)) ?_
    with_reducible refine (laws_toEventS.calls k _ _ l0 t386 _ ?side1 ?side2 A6.out).mono ?_
    (case side1 => repeat (first | exact (Kd.C_below HR0.out HB.out) | (with_reducible refine Kd.C_alloc ?_ _) | (with_reducible refine Kd.C_drewN ?_ _) | (with_reducible refine Kd.C_drew ?_)))
    (case side2 => exact HC0.out)
    rintro e w15 ⟨v387, rfl, ho0, hb⟩
    refine ⟨_, rfl, ?_⟩
    have n0_ := Aside0.mk (Kd.R_lower ho0 (below_size (by repeat (first | (with_reducible first | exact HB.out | apply below_alloc | apply pw_below_drewN | apply below_drew1 | refine below_set ?_ GE384.out) | exact HB.out))))
    have n1_ := Aside0.mk (blk_below (g := gb384) (o := .cells #[.int .i64 a1_0, .int .i64 a1_1, .int .i64 a1_2, .int .i64 a1_3] 34 (0, 0)) (by (with_reducible repeat (first | refine blk_drewN ?_ _ | refine blk_drew ?_ | refine blk_alloc ?_ _)); exact BK384.out) hb)
    have n2_ := Aside0.mk (below_step (by repeat (first | (with_reducible first | exact HB.out | apply below_alloc | apply pw_below_drewN | apply below_drew1 | refine below_set ?_ GE384.out) | exact HB.out)) hb)
    clear BK384
    clear HB
    have HO388 := n0_
    have BK384 := n1_
    have HB := n2_
    clear n0_ n1_ n2_
    (try clear hb)
    (try clear hb2)
    (try clear hk)
    (try clear hi)
    (try clear ho0)
    refine hK.out _ _ ⟨(blk_cell BK384.out 0).trans rfl, (blk_cell BK384.out 1).trans rfl, (blk_cell BK384.out 2).trans rfl, (blk_cell BK384.out 3).trans rfl⟩ (fun hHeld => ?_)
    clear hK K
    refine norm_ (a' := ?_) ?_ ?_
    rotate_left
    · show Act.put _ (some 23) _ = _
      simp only [Act.put, List.setIfInBounds_toArray, List.set_cons_zero, List.set_cons_succ, i64_w, i32_w]
      rfl
    refine one_ (i := 3) (N := some 25) #[true, true, true, true, false, false, false, false, false, false] rfl rfl (one_of HT_.out (by kernel_rfl)) (by decide) (fun K hK => ?_)
    refine goes_ Try.func27 (by kernel_rfl) rfl #[.agg #[.int .i64 a1_0, .int .i64 a1_1, .int .i64 a1_2, .int .i64 a1_3]] (by rfl) rfl rfl (by (try simp only [List.map_toArray, List.map_cons, List.map_nil]); first | done | rfl | (simp only [List.length_drop, List.length_take]; rfl)) ?_
    with_reducible refine (laws_toEvent.calls a1_0 a1_1 a1_2 a1_3 t389 t390 t391 t392 _ A7.out).mono ?_
    rintro e w16 ⟨rfl, hb⟩
    refine ⟨_, rfl, ?_⟩
    have n0_ := Aside0.mk (Kd.R_below (by (with_reducible repeat (first | apply Kd.R_alloc | apply Kd.R_drewN | apply Kd.R_drew)); exact HO388.out) hb)
    have n1_ := Aside0.mk (blk_below (g := gb384) (o := .cells #[.int .i64 a1_0, .int .i64 a1_1, .int .i64 a1_2, .int .i64 a1_3] 34 (0, 0)) (by (with_reducible repeat (first | refine blk_drewN ?_ _ | refine blk_drew ?_ | refine blk_alloc ?_ _)); exact BK384.out) hb)
    have n2_ := Aside0.mk (below_step (by repeat (first | (with_reducible first | exact HB.out | apply below_alloc | apply pw_below_drewN | apply below_drew1 | refine below_set ?_ GE384.out) | exact HB.out)) hb)
    clear HO388
    clear BK384
    clear HB
    have HO388 := n0_
    have BK384 := n1_
    have HB := n2_
    clear n0_ n1_ n2_
    (try clear hb)
    (try clear hb2)
    (try clear hk)
    (try clear hi)
    obtain ⟨Ao17, co17, eo17⟩ := Kd.R_slice HO388.out
    (first | subst eo17 | (injection eo17 with f1_ f2_ f3_; have f4_ := f1_.symm; have f5_ := f3_.symm; clear f1_ f2_ f3_; subst f4_; subst f5_))
    refine hK.out _ _ ⟨(blk_cell BK384.out 0).trans rfl, (blk_cell BK384.out 1).trans rfl, (blk_cell BK384.out 2).trans rfl, (blk_cell BK384.out 3).trans rfl⟩ (fun hHeld => ?_)
    clear hK K
    refine norm_ (a' := ?_) ?_ ?_
    rotate_left
    · show Act.put _ (some 25) _ = _
      simp only [Act.put, List.setIfInBounds_toArray, List.set_cons_zero, List.set_cons_succ, i64_w, i32_w]
      rfl
    refine one_ (i := 4) (N := some 26) #[true, true, true, true, true, false, false, false, false, false] rfl rfl (one_of HT_.out (by kernel_rfl)) (by decide) (fun K hK => ?_)
    refine goes_ Try.func29 (by kernel_rfl) rfl #[.slice Ao17 t386.length co17, .agg #[.int .i64 t389, .int .i64 t390, .int .i64 t391, .int .i64 t392]] (by rfl) rfl rfl (by (try simp only [List.map_toArray, List.map_cons, List.map_nil]); first | done | rfl | (simp only [List.length_drop, List.length_take]; rfl)) ?_
    with_reducible refine (spec_PutEvent.calls k _ _ t386 t389 t390 t391 t392 t393 t396 _ ?side1 ?side2 A8.out).mono ?_
    (case side1 => repeat (first | exact (Kd.R_reads' HO388.out).2.2 | (with_reducible refine Kd.C_alloc ?_ _) | (with_reducible refine Kd.C_drewN ?_ _) | (with_reducible refine Kd.C_drew ?_)))
    (case side2 => exact (Kd.R_reads' HO388.out).2.1)
    rintro e w18 ⟨v394, rfl, ho0, hb⟩
    refine ⟨_, rfl, ?_⟩
    have n0_ := Aside0.mk (Kd.R_elder' (by (with_reducible repeat (first | apply Kd.R_alloc | apply Kd.R_drewN | apply Kd.R_drew)); exact HO388.out) (Kd.R_base ho0) hb)
    have n1_ := Aside0.mk (Kd.R_lower (Kd.R_new' ho0 (Kd.R_lt (by (with_reducible repeat (first | apply Kd.R_alloc | apply Kd.R_drewN | apply Kd.R_drew)); exact HO388.out))) (below_size (by repeat (first | (with_reducible first | exact HB.out | apply below_alloc | apply pw_below_drewN | apply below_drew1 | refine below_set ?_ GE384.out) | exact HB.out))))
    have n2_ := Aside0.mk (blk_below (g := gb384) (o := .cells #[.int .i64 a1_0, .int .i64 a1_1, .int .i64 a1_2, .int .i64 a1_3] 34 (0, 0)) (by (with_reducible repeat (first | refine blk_drewN ?_ _ | refine blk_drew ?_ | refine blk_alloc ?_ _)); exact BK384.out) hb)
    have n3_ := Aside0.mk (below_step (by repeat (first | (with_reducible first | exact HB.out | apply below_alloc | apply pw_below_drewN | apply below_drew1 | refine below_set ?_ GE384.out) | exact HB.out)) hb)
    clear HO388
    clear BK384
    clear HB
    have HO388 := n0_
    have HO395 := n1_
    have BK384 := n2_
    have HB := n3_
    clear n0_ n1_ n2_ n3_
    (try clear hb)
    (try clear hb2)
    (try clear hk)
    (try clear hi)
    (try clear ho0)
    refine hK.out _ _ ⟨(blk_cell BK384.out 0).trans rfl, (blk_cell BK384.out 1).trans rfl, (blk_cell BK384.out 2).trans rfl, (blk_cell BK384.out 3).trans rfl⟩ (fun hHeld => ?_)
    clear hK K
    refine norm_ (a' := ?_) ?_ ?_
    rotate_left
    · show Act.put _ (some 26) _ = _
      simp only [Act.put, List.setIfInBounds_toArray, List.set_cons_zero, List.set_cons_succ, i64_w, i32_w]
      rfl
    refine pure_ (i := 5) (N := some 21) (v := ?_) (a' := ?_) #[true, true, true, true, true, true, false, false, false, false] rfl rfl (any_of HT_.out (by kernel_rfl)) (fun _ _ _ h => h) (Or.inl ⟨by rfl, ?_⟩) ?_ ?_
    rotate_left
    · intro w'
      go_simp
      with_reducible rfl
    rotate_left
    · simp only [Act.put, List.setIfInBounds_toArray, List.set_cons_zero, List.set_cons_succ, i64_w, i32_w]
      rfl
    refine pure_ (i := 6) (N := some 27) (v := ?_) (a' := ?_) #[true, true, true, true, true, true, true, false, false, false] rfl rfl (any_of HT_.out (by kernel_rfl)) (fun _ _ _ h => h) (Or.inl ⟨by rfl, ?_⟩) ?_ ?_
    rotate_left
    · intro w'
      go_simp
      with_reducible rfl
    rotate_left
    · simp only [Act.put, List.setIfInBounds_toArray, List.set_cons_zero, List.set_cons_succ, i64_w, i32_w]
      rfl
    refine pure_ (i := 7) (N := some 28) (v := ?_) (a' := ?_) #[true, true, true, true, true, true, true, true, false, false] rfl rfl (any_of HT_.out (by kernel_rfl)) (fun _ _ _ h => h) (Or.inl ⟨by rfl, ?_⟩) ?_ ?_
    rotate_left
    · intro w'
      go_simp
      with_reducible rfl
    rotate_left
    · simp only [Act.put, List.setIfInBounds_toArray, List.set_cons_zero, List.set_cons_succ, i64_w, i32_w]
      rfl
    refine pure_ (i := 8) (N := some 6) (v := ?_) (a' := ?_) #[true, true, true, true, true, true, true, true, true, false] rfl rfl (any_of HT_.out (by kernel_rfl)) (fun _ _ _ h => h) (Or.inl ⟨by rfl, ?_⟩) ?_ ?_
    rotate_left
    · intro w'
      go_simp
      with_reducible rfl
    rotate_left
    · simp only [Act.put, List.setIfInBounds_toArray, List.set_cons_zero, List.set_cons_succ, i64_w, i32_w]
      rfl
    refine pure_ (i := 9) (N := some 7) (v := ?_) (a' := ?_) #[true, true, true, true, true, true, true, true, true, true] rfl rfl (any_of HT_.out (by kernel_rfl)) (fun _ _ _ h => h) (Or.inl ⟨by rfl, ?_⟩) ?_ ?_
    rotate_left
    · intro w'
      go_simp
      with_reducible rfl
    rotate_left
    · simp only [Act.put, List.setIfInBounds_toArray, List.set_cons_zero, List.set_cons_succ, i64_w, i32_w]
      rfl
    refine done_ (done_of HT_.out (by kernel_rfl)) ?_
    go_upto_region 8 with (first | ((with_reducible refine gate_callee (f := 17) rfl ?_); refine goesL_ (some 30) rfl rfl Try.func17 (by kernel_rfl) rfl #[.slice A0 l0.length c0] rfl (by (try simp only [List.map_toArray, List.map_cons, List.map_nil]); first | done | rfl | (simp only [List.length_drop, List.length_take]; rfl)) ?_; (with_reducible refine (laws_toEventS.calls k _ _ l0 t397 _ ?side1 ?side2 A9.out).mono ?_); (case side1 => repeat (first | exact (Kd.C_below HR0.out HB.out) | (with_reducible refine Kd.C_alloc ?_ _) | (with_reducible refine Kd.C_drewN ?_ _) | (with_reducible refine Kd.C_drew ?_))); (case side2 => exact HC0.out); rintro e w19 ⟨v398, rfl, ho0, hb⟩; refine ⟨_, rfl, ?_⟩; have n0_ := Aside0.mk (Kd.R_elder' (by (with_reducible repeat (first | apply Kd.R_alloc | apply Kd.R_drewN | apply Kd.R_drew)); exact HO388.out) (Kd.R_base ho0) hb); have n1_ := Aside0.mk (Kd.R_elder' (by (with_reducible repeat (first | apply Kd.R_alloc | apply Kd.R_drewN | apply Kd.R_drew)); exact HO395.out) (Kd.R_base ho0) hb); have n2_ := Aside0.mk (Kd.R_lower (Kd.R_new' (Kd.R_new' ho0 (Kd.R_lt (by (with_reducible repeat (first | apply Kd.R_alloc | apply Kd.R_drewN | apply Kd.R_drew)); exact HO388.out))) (Kd.R_lt (by (with_reducible repeat (first | apply Kd.R_alloc | apply Kd.R_drewN | apply Kd.R_drew)); exact HO395.out))) (below_size (by repeat (first | (with_reducible first | exact HB.out | apply below_alloc | apply pw_below_drewN | apply below_drew1 | refine below_set ?_ GE384.out) | exact HB.out)))); have n3_ := Aside0.mk (blk_below (g := gb384) (o := .cells #[.int .i64 a1_0, .int .i64 a1_1, .int .i64 a1_2, .int .i64 a1_3] 34 (0, 0)) (by (with_reducible repeat (first | refine blk_drewN ?_ _ | refine blk_drew ?_ | refine blk_alloc ?_ _)); exact BK384.out) hb); have n4_ := Aside0.mk (below_step (by repeat (first | (with_reducible first | exact HB.out | apply below_alloc | apply pw_below_drewN | apply below_drew1 | refine below_set ?_ GE384.out) | exact HB.out)) hb); clear HO388; clear HO395; clear BK384; clear HB; have HO388 := n0_; have HO395 := n1_; have HO399 := n2_; have BK384 := n3_; have HB := n4_; clear n0_ n1_ n2_ n3_ n4_; (try clear hb); (try clear hb2); (try clear hk); (try clear hi); (try clear ho0); have hcz20_0 : w19.cell? ⟨gb384, 0, none⟩ = some (.int .i64 a1_0) := (blk_cell BK384.out 0).trans rfl; have hcz20_1 : w19.cell? ⟨gb384, 1, none⟩ = some (.int .i64 a1_1) := (blk_cell BK384.out 1).trans rfl; have hcz20_2 : w19.cell? ⟨gb384, 2, none⟩ = some (.int .i64 a1_2) := (blk_cell BK384.out 2).trans rfl; have hcz20_3 : w19.cell? ⟨gb384, 3, none⟩ = some (.int .i64 a1_3) := (blk_cell BK384.out 3).trans rfl; have hfz20_0 := blk_frozen BK384.out 0; have hfz20_1 := blk_frozen BK384.out 1; have hfz20_2 := blk_frozen BK384.out 2; have hfz20_3 := blk_frozen BK384.out 3) | ((with_reducible refine gate_callee (f := 27) rfl ?_); refine goesL_ (some 34) rfl rfl Try.func27 (by kernel_rfl) rfl #[.agg #[.int .i64 a1_0, .int .i64 a1_1, .int .i64 a1_2, .int .i64 a1_3]] rfl (by (try simp only [List.map_toArray, List.map_cons, List.map_nil]); first | done | rfl | (simp only [List.length_drop, List.length_take]; rfl)) ?_; (with_reducible refine (laws_toEvent.calls a1_0 a1_1 a1_2 a1_3 t400 t401 t402 t403 _ A10.out).mono ?_); rintro e w21 ⟨rfl, hb⟩; refine ⟨_, rfl, ?_⟩; have n0_ := Aside0.mk (Kd.R_below (by (with_reducible repeat (first | apply Kd.R_alloc | apply Kd.R_drewN | apply Kd.R_drew)); exact HO388.out) hb); have n1_ := Aside0.mk (Kd.R_below (by (with_reducible repeat (first | apply Kd.R_alloc | apply Kd.R_drewN | apply Kd.R_drew)); exact HO395.out) hb); have n2_ := Aside0.mk (Kd.R_below (by (with_reducible repeat (first | apply Kd.R_alloc | apply Kd.R_drewN | apply Kd.R_drew)); exact HO399.out) hb); have n3_ := Aside0.mk (blk_below (g := gb384) (o := .cells #[.int .i64 a1_0, .int .i64 a1_1, .int .i64 a1_2, .int .i64 a1_3] 34 (0, 0)) (by (with_reducible repeat (first | refine blk_drewN ?_ _ | refine blk_drew ?_ | refine blk_alloc ?_ _)); exact BK384.out) hb); have n4_ := Aside0.mk (below_step (by repeat (first | (with_reducible first | exact HB.out | apply below_alloc | apply pw_below_drewN | apply below_drew1 | refine below_set ?_ GE384.out) | exact HB.out)) hb); clear HO388; clear HO395; clear HO399; clear BK384; clear HB; have HO388 := n0_; have HO395 := n1_; have HO399 := n2_; have BK384 := n3_; have HB := n4_; clear n0_ n1_ n2_ n3_ n4_; (try clear hb); (try clear hb2); (try clear hk); (try clear hi); obtain ⟨Ao22, co22, eo22⟩ := Kd.R_slice HO399.out; subst eo22) | ((with_reducible refine gate_callee (f := 30) rfl ?_); refine goesL_ (some 35) rfl rfl Try.func30 (by kernel_rfl) rfl #[.slice Ao22 t397.length co22, .agg #[.int .i64 t400, .int .i64 t401, .int .i64 t402, .int .i64 t403]] rfl (by (try simp only [List.map_toArray, List.map_cons, List.map_nil]); first | done | rfl | (simp only [List.length_drop, List.length_take]; rfl)) ?_; (with_reducible refine (impl_PutEvent.calls k _ _ t397 t400 t401 t402 t403 t404 t407 _ ?side1 ?side2 A11.out).mono ?_); (case side1 => repeat (first | exact (Kd.R_reads' HO399.out).2.2 | (with_reducible refine Kd.C_alloc ?_ _) | (with_reducible refine Kd.C_drewN ?_ _) | (with_reducible refine Kd.C_drew ?_))); (case side2 => exact (Kd.R_reads' HO399.out).2.1); rintro e w23 ⟨v405, rfl, ho0, hb⟩; refine ⟨_, rfl, ?_⟩; have n0_ := Aside0.mk (Kd.R_elder' (by (with_reducible repeat (first | apply Kd.R_alloc | apply Kd.R_drewN | apply Kd.R_drew)); exact HO388.out) (Kd.R_base ho0) hb); have n1_ := Aside0.mk (Kd.R_elder' (by (with_reducible repeat (first | apply Kd.R_alloc | apply Kd.R_drewN | apply Kd.R_drew)); exact HO395.out) (Kd.R_base ho0) hb); have n2_ := Aside0.mk (Kd.R_elder' (by (with_reducible repeat (first | apply Kd.R_alloc | apply Kd.R_drewN | apply Kd.R_drew)); exact HO399.out) (Kd.R_base ho0) hb); have n3_ := Aside0.mk (Kd.R_lower (Kd.R_new' (Kd.R_new' (Kd.R_new' ho0 (Kd.R_lt (by (with_reducible repeat (first | apply Kd.R_alloc | apply Kd.R_drewN | apply Kd.R_drew)); exact HO388.out))) (Kd.R_lt (by (with_reducible repeat (first | apply Kd.R_alloc | apply Kd.R_drewN | apply Kd.R_drew)); exact HO395.out))) (Kd.R_lt (by (with_reducible repeat (first | apply Kd.R_alloc | apply Kd.R_drewN | apply Kd.R_drew)); exact HO399.out))) (below_size (by repeat (first | (with_reducible first | exact HB.out | apply below_alloc | apply pw_below_drewN | apply below_drew1 | refine below_set ?_ GE384.out) | exact HB.out)))); have n4_ := Aside0.mk (blk_below (g := gb384) (o := .cells #[.int .i64 a1_0, .int .i64 a1_1, .int .i64 a1_2, .int .i64 a1_3] 34 (0, 0)) (by (with_reducible repeat (first | refine blk_drewN ?_ _ | refine blk_drew ?_ | refine blk_alloc ?_ _)); exact BK384.out) hb); have n5_ := Aside0.mk (below_step (by repeat (first | (with_reducible first | exact HB.out | apply below_alloc | apply pw_below_drewN | apply below_drew1 | refine below_set ?_ GE384.out) | exact HB.out)) hb); clear HO388; clear HO395; clear HO399; clear BK384; clear HB; have HO388 := n0_; have HO395 := n1_; have HO399 := n2_; have HO406 := n3_; have BK384 := n4_; have HB := n5_; clear n0_ n1_ n2_ n3_ n4_ n5_; (try clear hb); (try clear hb2); (try clear hk); (try clear hi); (try clear ho0)))
    (try simp only [Act.put, List.setIfInBounds_toArray, List.set_cons_zero, List.set_cons_succ])
    go_cut [46] (fun v46 wc => ∃ (kq : Nat) (x46_11 : Bool), v46 = .bool x46_11 ∧ Aside0 (laws_FnExactPutEvent.j0 kq l0 t393 t396 t397 t404 t407 x46_11 a1_0 a1_1 a1_2 a1_3 = some r) ∧ Aside0 (kq ≤ k) ∧ Aside0 (Kd.R k37 37 wc w.heap.size (fun k_ => some k_ ≠ ((.slice Ao22 t397.length co22) : Value).ownBlock ∧ some k_ ≠ (v405 : Value).ownBlock) v394 t393) ∧ Aside0 (Kd.R k37 37 wc w.heap.size (fun k_ => some k_ ≠ (v394 : Value).ownBlock ∧ some k_ ≠ (v405 : Value).ownBlock) (.slice Ao22 t397.length co22) t397) ∧ Aside0 (Kd.R k37 37 wc w.heap.size (fun k_ => some k_ ≠ (v394 : Value).ownBlock ∧ some k_ ≠ ((.slice Ao22 t397.length co22) : Value).ownBlock) v405 t404) ∧ Aside0 (wc.heap[gb384]? = some (.cells #[.int .i64 a1_0, .int .i64 a1_1, .int .i64 a1_2, .int .i64 a1_3] 34 (0, 0))) ∧ Aside0 (Below w.heap.size w wc))
    case first =>
      have H := HC12.out
      clear HC12
      replace H := Option.bind_eq_some_iff.mp H
      obtain ⟨t408, A240, H⟩ := H
      replace H : (if t408 = true then (laws_FnExactPutEvent.j0 k l0 t393 t396 t397 t404 t407 (t407 != t396) a1_0 a1_1 a1_2 a1_3) else (laws_FnExactPutEvent.j0 k l0 t393 t396 t397 t404 t407 true a1_0 a1_1 a1_2 a1_3)) = some r := H
      have A24 := Aside0.mk A240
      clear A240
      by_cases c25 : t408 = true
      · subst c25
        have H1 : (laws_FnExactPutEvent.j0 k l0 t393 t396 t397 t404 t407 (t407 != t396) a1_0 a1_1 a1_2 a1_3) = some r := by rw [if_pos rfl] at H; exact H
        clear H
        have H := H1
        clear H1
        have H' := Aside0.mk H
        clear H
        obtain ⟨Ao26, co26, eo26⟩ := Kd.R_slice HO406.out
        subst eo26
        obtain ⟨Ao27, co27, eo27⟩ := Kd.R_slice HO395.out
        subst eo27
        go_wp2_with (first | ((with_reducible refine gate_callee (f := 19) rfl ?_); refine goesL_ (some 40) rfl rfl Try.func19 (by kernel_rfl) rfl #[.slice Ao26 t404.length co26, .slice Ao27 t393.length co27] rfl (by (try simp only [List.map_toArray, List.map_cons, List.map_nil]); first | done | rfl | (simp only [List.length_drop, List.length_take]; rfl)) ?_; (with_reducible refine (laws_eqEventS.calls k _ _ t404 _ _ t393 true _ ?side1 ?side2 ?side3 ?side4 A24.out).mono ?_); (case side1 => repeat (first | exact (Kd.R_reads' HO406.out).2.2 | (with_reducible refine Kd.C_alloc ?_ _) | (with_reducible refine Kd.C_drewN ?_ _) | (with_reducible refine Kd.C_drew ?_))); (case side2 => exact (Kd.R_reads' HO406.out).2.1); (case side3 => repeat (first | exact (Kd.R_reads' HO395.out).2.2 | (with_reducible refine Kd.C_alloc ?_ _) | (with_reducible refine Kd.C_drewN ?_ _) | (with_reducible refine Kd.C_drew ?_))); (case side4 => exact (Kd.R_reads' HO395.out).2.1); rintro e w28 ⟨rfl, hb⟩; refine ⟨_, rfl, ?_⟩; have n0_ := Aside0.mk (Kd.R_below (by (with_reducible repeat (first | apply Kd.R_alloc | apply Kd.R_drewN | apply Kd.R_drew)); exact HO388.out) hb); have n1_ := Aside0.mk (Kd.R_below (by (with_reducible repeat (first | apply Kd.R_alloc | apply Kd.R_drewN | apply Kd.R_drew)); exact HO395.out) hb); have n2_ := Aside0.mk (Kd.R_below (by (with_reducible repeat (first | apply Kd.R_alloc | apply Kd.R_drewN | apply Kd.R_drew)); exact HO399.out) hb); have n3_ := Aside0.mk (Kd.R_below (by (with_reducible repeat (first | apply Kd.R_alloc | apply Kd.R_drewN | apply Kd.R_drew)); exact HO406.out) hb); have n4_ := Aside0.mk (blk_below (g := gb384) (o := .cells #[.int .i64 a1_0, .int .i64 a1_1, .int .i64 a1_2, .int .i64 a1_3] 34 (0, 0)) (by (with_reducible repeat (first | refine blk_drewN ?_ _ | refine blk_drew ?_ | refine blk_alloc ?_ _)); exact BK384.out) hb); have n5_ := Aside0.mk (below_step (by repeat (first | (with_reducible first | exact HB.out | apply below_alloc | apply pw_below_drewN | apply below_drew1 | refine below_set ?_ GE384.out) | exact HB.out)) hb); clear HO388; clear HO395; clear HO399; clear HO406; clear BK384; clear HB; have HO388 := n0_; have HO395 := n1_; have HO399 := n2_; have HO406 := n3_; have BK384 := n4_; have HB := n5_; clear n0_ n1_ n2_ n3_ n4_ n5_; (try clear hb); (try clear hb2); (try clear hk); (try clear hi)))
        go_meet
        case rel => exact ⟨_, ((t407 != t396)), (by first | rfl | (simp; done) | (simp [*]; done)), H', ⟨by first | omega | exact Nat.le_refl _⟩, ⟨by (with_reducible repeat (first | apply Kd.R_alloc | apply Kd.R_drewN | apply Kd.R_drew)); exact Kd.R_mono HO395.out (fun _ hk => ⟨hk.1.2, hk.2⟩)⟩, ⟨by (with_reducible repeat (first | apply Kd.R_alloc | apply Kd.R_drewN | apply Kd.R_drew)); exact Kd.R_mono HO399.out (fun _ hk => ⟨hk.1.2, hk.2⟩)⟩, ⟨by (with_reducible repeat (first | apply Kd.R_alloc | apply Kd.R_drewN | apply Kd.R_drew)); exact Kd.R_mono HO406.out (fun _ hk => ⟨hk.1.2, hk.2⟩)⟩, ⟨by (with_reducible repeat (first | refine blk_drewN ?_ _ | refine blk_drew ?_ | refine blk_alloc ?_ _)); exact BK384.out⟩, ⟨by repeat (first | (with_reducible first | exact HB.out | apply below_alloc | apply pw_below_drewN | apply below_drew1 | refine below_set ?_ GE384.out) | exact HB.out)⟩⟩
      · replace c25 := Bool.eq_false_iff.mpr c25
        subst c25
        have H1 : (laws_FnExactPutEvent.j0 k l0 t393 t396 t397 t404 t407 true a1_0 a1_1 a1_2 a1_3) = some r := by rw [if_neg (show ¬ (false = true) by decide)] at H; exact H
        clear H
        have H := H1
        clear H1
        have H' := Aside0.mk H
        clear H
        obtain ⟨Ao29, co29, eo29⟩ := Kd.R_slice HO406.out
        subst eo29
        obtain ⟨Ao30, co30, eo30⟩ := Kd.R_slice HO395.out
        subst eo30
        go_wp2_with (first | ((with_reducible refine gate_callee (f := 19) rfl ?_); refine goesL_ (some 40) rfl rfl Try.func19 (by kernel_rfl) rfl #[.slice Ao29 t404.length co29, .slice Ao30 t393.length co30] rfl (by (try simp only [List.map_toArray, List.map_cons, List.map_nil]); first | done | rfl | (simp only [List.length_drop, List.length_take]; rfl)) ?_; (with_reducible refine (laws_eqEventS.calls k _ _ t404 _ _ t393 false _ ?side1 ?side2 ?side3 ?side4 A24.out).mono ?_); (case side1 => repeat (first | exact (Kd.R_reads' HO406.out).2.2 | (with_reducible refine Kd.C_alloc ?_ _) | (with_reducible refine Kd.C_drewN ?_ _) | (with_reducible refine Kd.C_drew ?_))); (case side2 => exact (Kd.R_reads' HO406.out).2.1); (case side3 => repeat (first | exact (Kd.R_reads' HO395.out).2.2 | (with_reducible refine Kd.C_alloc ?_ _) | (with_reducible refine Kd.C_drewN ?_ _) | (with_reducible refine Kd.C_drew ?_))); (case side4 => exact (Kd.R_reads' HO395.out).2.1); rintro e w31 ⟨rfl, hb⟩; refine ⟨_, rfl, ?_⟩; have n0_ := Aside0.mk (Kd.R_below (by (with_reducible repeat (first | apply Kd.R_alloc | apply Kd.R_drewN | apply Kd.R_drew)); exact HO388.out) hb); have n1_ := Aside0.mk (Kd.R_below (by (with_reducible repeat (first | apply Kd.R_alloc | apply Kd.R_drewN | apply Kd.R_drew)); exact HO395.out) hb); have n2_ := Aside0.mk (Kd.R_below (by (with_reducible repeat (first | apply Kd.R_alloc | apply Kd.R_drewN | apply Kd.R_drew)); exact HO399.out) hb); have n3_ := Aside0.mk (Kd.R_below (by (with_reducible repeat (first | apply Kd.R_alloc | apply Kd.R_drewN | apply Kd.R_drew)); exact HO406.out) hb); have n4_ := Aside0.mk (blk_below (g := gb384) (o := .cells #[.int .i64 a1_0, .int .i64 a1_1, .int .i64 a1_2, .int .i64 a1_3] 34 (0, 0)) (by (with_reducible repeat (first | refine blk_drewN ?_ _ | refine blk_drew ?_ | refine blk_alloc ?_ _)); exact BK384.out) hb); have n5_ := Aside0.mk (below_step (by repeat (first | (with_reducible first | exact HB.out | apply below_alloc | apply pw_below_drewN | apply below_drew1 | refine below_set ?_ GE384.out) | exact HB.out)) hb); clear HO388; clear HO395; clear HO399; clear HO406; clear BK384; clear HB; have HO388 := n0_; have HO395 := n1_; have HO399 := n2_; have HO406 := n3_; have BK384 := n4_; have HB := n5_; clear n0_ n1_ n2_ n3_ n4_ n5_; (try clear hb); (try clear hb2); (try clear hk); (try clear hi)))
        go_meet
        case rel => exact ⟨_, (true), (by first | rfl | (simp; done) | (simp [*]; done)), H', ⟨by first | omega | exact Nat.le_refl _⟩, ⟨by (with_reducible repeat (first | apply Kd.R_alloc | apply Kd.R_drewN | apply Kd.R_drew)); exact Kd.R_mono HO395.out (fun _ hk => ⟨hk.1.2, hk.2⟩)⟩, ⟨by (with_reducible repeat (first | apply Kd.R_alloc | apply Kd.R_drewN | apply Kd.R_drew)); exact Kd.R_mono HO399.out (fun _ hk => ⟨hk.1.2, hk.2⟩)⟩, ⟨by (with_reducible repeat (first | apply Kd.R_alloc | apply Kd.R_drewN | apply Kd.R_drew)); exact Kd.R_mono HO406.out (fun _ hk => ⟨hk.1.2, hk.2⟩)⟩, ⟨by (with_reducible repeat (first | refine blk_drewN ?_ _ | refine blk_drew ?_ | refine blk_alloc ?_ _)); exact BK384.out⟩, ⟨by repeat (first | (with_reducible first | exact HB.out | apply below_alloc | apply pw_below_drewN | apply below_drew1 | refine below_set ?_ GE384.out) | exact HB.out)⟩⟩
    case rest =>
      clear HC12
      try clear c1
      try clear c2
      try clear p2
      try clear c3
      try clear c4
      try clear c4b0
      try clear c7
      try clear c15
      try clear c17
      try clear c19
      try clear c25
      try clear c27
      try clear c29
      try clear c30
      try clear hcz20_0
      try clear hcz20_1
      try clear hcz20_2
      try clear hcz20_3
      try clear hfz20_0
      try clear hfz20_1
      try clear hfz20_2
      try clear hfz20_3
      obtain ⟨kq, x46_11, rfl, HA, HJ11, HO_6, HO_8, HO_9, BK384, HB⟩ := hcut
      cases kq with
      | zero => exact absurd HA.out (by simp [laws_FnExactPutEvent.j0])
      | succ kj11 =>
        have H := HA.out
        clear HA
        simp only [laws_FnExactPutEvent.j0] at H
        by_cases c32 : x46_11 = true
        · subst c32
          have H1 : (some false) = some r := by rw [if_pos rfl] at H; exact H
          clear H
          have H := H1
          clear H1
          obtain rfl := Option.some.inj H
          go_wp2
          go_ret
          exact ⟨by first | rfl | (simp [errW_none, errW_some] <;> rfl) | (simp [*, errW_none, errW_some] <;> rfl), by repeat (first | (with_reducible first | exact HB.out | apply below_alloc | apply pw_below_drewN | apply below_drew1 | refine below_set ?_ GE384.out) | exact HB.out)⟩
        · replace c32 := Bool.eq_false_iff.mpr c32
          subst c32
          have H1 : ((laws_toEventS.f kj11 l0).bind fun t409 => ((laws_eqEventS.f kj11 t397 t409).bind fun t412 => (if t412 = true then ((laws_markEventS.f kj11 t397 1).bind fun bt413 => (if bt413.1 < 0 then (laws_FnExactPutEvent.j1 kj11 l0 t393 t396 t404 true a1_0 a1_1 a1_2 a1_3) else ((laws_eqEventS.f kj11 t404 t393).bind fun t415 => (if t415 = true then (laws_FnExactPutEvent.j1 kj11 l0 t393 t396 t404 (t407 != t396) a1_0 a1_1 a1_2 a1_3) else (laws_FnExactPutEvent.j1 kj11 l0 t393 t396 t404 true a1_0 a1_1 a1_2 a1_3))))) else (some false)))) = some r := by rw [if_neg (show ¬ (false = true) by decide)] at H; exact H
          clear H
          have H := H1
          clear H1
          replace H := Option.bind_eq_some_iff.mp H
          obtain ⟨t409, A330, H⟩ := H
          replace H : ((laws_eqEventS.f kj11 t397 t409).bind fun t412 => (if t412 = true then ((laws_markEventS.f kj11 t397 1).bind fun bt413 => (if bt413.1 < 0 then (laws_FnExactPutEvent.j1 kj11 l0 t393 t396 t404 true a1_0 a1_1 a1_2 a1_3) else ((laws_eqEventS.f kj11 t404 t393).bind fun t415 => (if t415 = true then (laws_FnExactPutEvent.j1 kj11 l0 t393 t396 t404 (t407 != t396) a1_0 a1_1 a1_2 a1_3) else (laws_FnExactPutEvent.j1 kj11 l0 t393 t396 t404 true a1_0 a1_1 a1_2 a1_3))))) else (some false))) = some r := H
          have A33 := Aside0.mk A330
          clear A330
          replace H := Option.bind_eq_some_iff.mp H
          obtain ⟨t412, A340, H⟩ := H
          replace H : (if t412 = true then ((laws_markEventS.f kj11 t397 1).bind fun bt413 => (if bt413.1 < 0 then (laws_FnExactPutEvent.j1 kj11 l0 t393 t396 t404 true a1_0 a1_1 a1_2 a1_3) else ((laws_eqEventS.f kj11 t404 t393).bind fun t415 => (if t415 = true then (laws_FnExactPutEvent.j1 kj11 l0 t393 t396 t404 (t407 != t396) a1_0 a1_1 a1_2 a1_3) else (laws_FnExactPutEvent.j1 kj11 l0 t393 t396 t404 true a1_0 a1_1 a1_2 a1_3))))) else (some false)) = some r := H
          have A34 := Aside0.mk A340
          clear A340
          by_cases c35 : t412 = true
          · subst c35
            have H1 : ((laws_markEventS.f kj11 t397 1).bind fun bt413 => (if bt413.1 < 0 then (laws_FnExactPutEvent.j1 kj11 l0 t393 t396 t404 true a1_0 a1_1 a1_2 a1_3) else ((laws_eqEventS.f kj11 t404 t393).bind fun t415 => (if t415 = true then (laws_FnExactPutEvent.j1 kj11 l0 t393 t396 t404 (t407 != t396) a1_0 a1_1 a1_2 a1_3) else (laws_FnExactPutEvent.j1 kj11 l0 t393 t396 t404 true a1_0 a1_1 a1_2 a1_3))))) = some r := by rw [if_pos rfl] at H; exact H
            clear H
            have H := H1
            clear H1
            replace H := Option.bind_eq_some_iff.mp H
            obtain ⟨⟨t413, t414⟩, A360, H⟩ := H
            replace H : (if t413 < 0 then (laws_FnExactPutEvent.j1 kj11 l0 t393 t396 t404 true a1_0 a1_1 a1_2 a1_3) else ((laws_eqEventS.f kj11 t404 t393).bind fun t415 => (if t415 = true then (laws_FnExactPutEvent.j1 kj11 l0 t393 t396 t404 (t407 != t396) a1_0 a1_1 a1_2 a1_3) else (laws_FnExactPutEvent.j1 kj11 l0 t393 t396 t404 true a1_0 a1_1 a1_2 a1_3)))) = some r := H
            have A36 := Aside0.mk A360
            clear A360
            have HC37 := Aside0.mk H
            clear H
            go_upto_region 14 with (first | ((with_reducible refine gate_callee (f := 17) rfl ?_); refine goesL_ (some 49) rfl rfl Try.func17 (by kernel_rfl) rfl #[.slice A0 l0.length c0] rfl (by (try simp only [List.map_toArray, List.map_cons, List.map_nil]); first | done | rfl | (simp only [List.length_drop, List.length_take]; rfl)) ?_; (with_reducible refine (laws_toEventS.calls kj11 _ _ l0 t409 _ ?side1 ?side2 A33.out).mono ?_); (case side1 => repeat (first | exact (Kd.C_below HR0.out HB.out) | (with_reducible refine Kd.C_alloc ?_ _) | (with_reducible refine Kd.C_drewN ?_ _) | (with_reducible refine Kd.C_drew ?_))); (case side2 => exact HC0.out); rintro e w38 ⟨v410, rfl, ho0, hb⟩; refine ⟨_, rfl, ?_⟩; have n0_ := Aside0.mk (Kd.R_elder' (by (with_reducible repeat (first | apply Kd.R_alloc | apply Kd.R_drewN | apply Kd.R_drew)); exact HO_6.out) (Kd.R_base ho0) hb); have n1_ := Aside0.mk (Kd.R_elder' (by (with_reducible repeat (first | apply Kd.R_alloc | apply Kd.R_drewN | apply Kd.R_drew)); exact HO_8.out) (Kd.R_base ho0) hb); have n2_ := Aside0.mk (Kd.R_elder' (by (with_reducible repeat (first | apply Kd.R_alloc | apply Kd.R_drewN | apply Kd.R_drew)); exact HO_9.out) (Kd.R_base ho0) hb); have n3_ := Aside0.mk (Kd.R_lower (Kd.R_new' (Kd.R_new' (Kd.R_new' ho0 (Kd.R_lt (by (with_reducible repeat (first | apply Kd.R_alloc | apply Kd.R_drewN | apply Kd.R_drew)); exact HO_6.out))) (Kd.R_lt (by (with_reducible repeat (first | apply Kd.R_alloc | apply Kd.R_drewN | apply Kd.R_drew)); exact HO_8.out))) (Kd.R_lt (by (with_reducible repeat (first | apply Kd.R_alloc | apply Kd.R_drewN | apply Kd.R_drew)); exact HO_9.out))) (below_size (by repeat (first | (with_reducible first | exact HB.out | apply below_alloc | apply pw_below_drewN | apply below_drew1 | refine below_set ?_ GE384.out) | exact HB.out)))); have n4_ := Aside0.mk (blk_below (g := gb384) (o := .cells #[.int .i64 a1_0, .int .i64 a1_1, .int .i64 a1_2, .int .i64 a1_3] 34 (0, 0)) (by (with_reducible repeat (first | refine blk_drewN ?_ _ | refine blk_drew ?_ | refine blk_alloc ?_ _)); exact BK384.out) hb); have n5_ := Aside0.mk (below_step (by repeat (first | (with_reducible first | exact HB.out | apply below_alloc | apply pw_below_drewN | apply below_drew1 | refine below_set ?_ GE384.out) | exact HB.out)) hb); clear HO_6; clear HO_8; clear HO_9; clear BK384; clear HB; have HO_6 := n0_; have HO_8 := n1_; have HO_9 := n2_; have HO411 := n3_; have BK384 := n4_; have HB := n5_; clear n0_ n1_ n2_ n3_ n4_ n5_; (try clear hb); (try clear hb2); (try clear hk); (try clear hi); (try clear ho0); obtain ⟨Ao39, co39, eo39⟩ := Kd.R_slice HO411.out; subst eo39) | ((with_reducible refine gate_callee (f := 19) rfl ?_); refine goesL_ (some 50) rfl rfl Try.func19 (by kernel_rfl) rfl #[.slice Ao22 t397.length co22, .slice Ao39 t409.length co39] rfl (by (try simp only [List.map_toArray, List.map_cons, List.map_nil]); first | done | rfl | (simp only [List.length_drop, List.length_take]; rfl)) ?_; (with_reducible refine (laws_eqEventS.calls kj11 _ _ t397 _ _ t409 true _ ?side1 ?side2 ?side3 ?side4 A34.out).mono ?_); (case side1 => repeat (first | exact (Kd.R_reads' HO_8.out).2.2 | (with_reducible refine Kd.C_alloc ?_ _) | (with_reducible refine Kd.C_drewN ?_ _) | (with_reducible refine Kd.C_drew ?_))); (case side2 => exact (Kd.R_reads' HO_8.out).2.1); (case side3 => repeat (first | exact (Kd.R_reads' HO411.out).2.2 | (with_reducible refine Kd.C_alloc ?_ _) | (with_reducible refine Kd.C_drewN ?_ _) | (with_reducible refine Kd.C_drew ?_))); (case side4 => exact (Kd.R_reads' HO411.out).2.1); rintro e w40 ⟨rfl, hb⟩; refine ⟨_, rfl, ?_⟩; have n0_ := Aside0.mk (Kd.R_below (by (with_reducible repeat (first | apply Kd.R_alloc | apply Kd.R_drewN | apply Kd.R_drew)); exact HO_6.out) hb); have n1_ := Aside0.mk (Kd.R_below (by (with_reducible repeat (first | apply Kd.R_alloc | apply Kd.R_drewN | apply Kd.R_drew)); exact HO_8.out) hb); have n2_ := Aside0.mk (Kd.R_below (by (with_reducible repeat (first | apply Kd.R_alloc | apply Kd.R_drewN | apply Kd.R_drew)); exact HO_9.out) hb); have n3_ := Aside0.mk (Kd.R_below (by (with_reducible repeat (first | apply Kd.R_alloc | apply Kd.R_drewN | apply Kd.R_drew)); exact HO411.out) hb); have n4_ := Aside0.mk (blk_below (g := gb384) (o := .cells #[.int .i64 a1_0, .int .i64 a1_1, .int .i64 a1_2, .int .i64 a1_3] 34 (0, 0)) (by (with_reducible repeat (first | refine blk_drewN ?_ _ | refine blk_drew ?_ | refine blk_alloc ?_ _)); exact BK384.out) hb); have n5_ := Aside0.mk (below_step (by repeat (first | (with_reducible first | exact HB.out | apply below_alloc | apply pw_below_drewN | apply below_drew1 | refine below_set ?_ GE384.out) | exact HB.out)) hb); clear HO_6; clear HO_8; clear HO_9; clear HO411; clear BK384; clear HB; have HO_6 := n0_; have HO_8 := n1_; have HO_9 := n2_; have HO411 := n3_; have BK384 := n4_; have HB := n5_; clear n0_ n1_ n2_ n3_ n4_ n5_; (try clear hb); (try clear hb2); (try clear hk); (try clear hi)) | ((with_reducible refine gate_callee (f := 24) rfl ?_); refine goesL_ (some 54) rfl rfl Try.func24 (by kernel_rfl) rfl #[.slice Ao22 t397.length co22, .int .i64 1] rfl (by (try simp only [List.map_toArray, List.map_cons, List.map_nil]); first | done | rfl | (simp only [List.length_drop, List.length_take]; rfl)) ?_; (with_reducible refine (laws_markEventS.calls kj11 (fun k_ => some k_ = (.slice Ao22 t397.length co22 : Value).ownBlock) (.slice Ao22 t397.length co22) t397 1 t413 t414 w _ ?side1 ?side2 A36.out).mono ?_); (case side1 => repeat (first | (with_reducible first | exact HB.out | apply below_alloc | apply pw_below_drewN | apply below_drew1 | refine below_set ?_ GE384.out) | exact HB.out)); (case side2 => exact Kd.R_tight rfl HO_8.out); rintro e w41 ⟨rfl, hy0, hb, hkp⟩; refine ⟨_, rfl, ?_⟩; have n0_ := Aside0.mk (Kd.R_mono (ok' := fun k_ => some k_ ≠ (.slice Ao22 t397.length co22 : Value).ownBlock ∧ some k_ ≠ (v405 : Value).ownBlock ∧ some k_ ≠ (.slice Ao39 t409.length co39 : Value).ownBlock) (Kd.R_keptB (HO_6.out) hkp (fun k_ hk_ hs_ => (hk_.1.1) hs_)) (fun k_ hk_ => ⟨hk_.1.1.1, hk_.1.1.2, hk_.1.2⟩)); have n1_ := Aside0.mk (Kd.R_reok rfl hy0 (fun k_ e_ => HO_8.out.1 k_ e_)); have n2_ := Aside0.mk (Kd.R_mono (ok' := fun k_ => some k_ ≠ (v394 : Value).ownBlock ∧ some k_ ≠ (.slice Ao22 t397.length co22 : Value).ownBlock ∧ some k_ ≠ (.slice Ao39 t409.length co39 : Value).ownBlock) (Kd.R_keptB (HO_9.out) hkp (fun k_ hk_ hs_ => (hk_.1.2) hs_)) (fun k_ hk_ => ⟨hk_.1.1.1, hk_.1.1.2, hk_.1.2⟩)); have n3_ := Aside0.mk (blk_kept (by (with_reducible repeat (first | refine blk_drewN ?_ _ | refine blk_drew ?_ | refine blk_alloc ?_ _)); exact BK384.out) hkp (fun hs_ => (fun e_ => (Kd.R_ne HO_8.out BK384.out (by decide)) e_) hs_)); have n4_ := Aside0.mk (Kd.R_mono (ok' := fun k_ => some k_ ≠ (v394 : Value).ownBlock ∧ some k_ ≠ (.slice Ao22 t397.length co22 : Value).ownBlock ∧ some k_ ≠ (v405 : Value).ownBlock) (Kd.R_keptB (HO411.out) hkp (fun k_ hk_ hs_ => (hk_.1.2) hs_)) (fun k_ hk_ => ⟨hk_.1.1.1.2, hk_.1.1.2, hk_.1.2⟩)); have n5_ := Aside0.mk (hb); clear HO_6; clear HO_8; clear HO_9; clear BK384; clear HO411; clear HB; have HO_6 := n0_; have HO_8 := n1_; have HO_9 := n2_; have BK384 := n3_; have HO411 := n4_; have HB := n5_; clear n0_ n1_ n2_ n3_ n4_ n5_; (try clear hb); (try clear hkp); (try clear hy0)))
            (try simp only [Act.put, List.setIfInBounds_toArray, List.set_cons_zero, List.set_cons_succ])
            go_cut [67] (fun v67 wc => ∃ (kq : Nat) (x67_36 : Bool), v67 = .bool x67_36 ∧ Aside0 (laws_FnExactPutEvent.j1 kq l0 t393 t396 t404 x67_36 a1_0 a1_1 a1_2 a1_3 = some r) ∧ Aside0 (kq ≤ kj11) ∧ Aside0 (Kd.R k37 37 wc w.heap.size (fun k_ => some k_ ≠ (v405 : Value).ownBlock) v394 t393) ∧ Aside0 (Kd.R k37 37 wc w.heap.size (fun k_ => some k_ ≠ (v394 : Value).ownBlock) v405 t404) ∧ Aside0 (wc.heap[gb384]? = some (.cells #[.int .i64 a1_0, .int .i64 a1_1, .int .i64 a1_2, .int .i64 a1_3] 34 (0, 0))) ∧ Aside0 (Below w.heap.size w wc))
            case first =>
              have H := HC37.out
              clear HC37
              by_cases c42 : t413 < 0
              · rw [if_pos c42] at H
                have c42b0 : decide (t413 < 0) = true := decide_eq_true c42
                clear c42
                (first | rw [c42b0] | (simp only [i64_w, i32_w]; rw [c42b0]) | skip)
                have H' := Aside0.mk H
                clear H
                go_wp2
                go_meet
                case rel => exact ⟨_, (true), (by first | rfl | (simp; done) | (simp [*]; done)), H', ⟨by have := HJ11.out; first | omega | exact Nat.le_refl _⟩, ⟨by (with_reducible repeat (first | apply Kd.R_alloc | apply Kd.R_drewN | apply Kd.R_drew)); exact Kd.R_mono HO_6.out (fun _ hk => hk.2.1)⟩, ⟨by (with_reducible repeat (first | apply Kd.R_alloc | apply Kd.R_drewN | apply Kd.R_drew)); exact Kd.R_mono HO_9.out (fun _ hk => hk.1)⟩, ⟨by (with_reducible repeat (first | refine blk_drewN ?_ _ | refine blk_drew ?_ | refine blk_alloc ?_ _)); exact BK384.out⟩, ⟨by repeat (first | (with_reducible first | exact HB.out | apply below_alloc | apply pw_below_drewN | apply below_drew1 | refine below_set ?_ GE384.out) | exact HB.out)⟩⟩
              · rw [if_neg c42] at H
                have c42b0 : decide (t413 < 0) = false := decide_eq_false c42
                clear c42
                (first | rw [c42b0] | (simp only [i64_w, i32_w]; rw [c42b0]) | skip)
                replace H := Option.bind_eq_some_iff.mp H
                obtain ⟨t415, A430, H⟩ := H
                replace H : (if t415 = true then (laws_FnExactPutEvent.j1 kj11 l0 t393 t396 t404 (t407 != t396) a1_0 a1_1 a1_2 a1_3) else (laws_FnExactPutEvent.j1 kj11 l0 t393 t396 t404 true a1_0 a1_1 a1_2 a1_3)) = some r := H
                have A43 := Aside0.mk A430
                clear A430
                by_cases c44 : t415 = true
                · subst c44
                  have H1 : (laws_FnExactPutEvent.j1 kj11 l0 t393 t396 t404 (t407 != t396) a1_0 a1_1 a1_2 a1_3) = some r := by rw [if_pos rfl] at H; exact H
                  clear H
                  have H := H1
                  clear H1
                  have H' := Aside0.mk H
                  clear H
                  obtain ⟨Ao45, co45, eo45⟩ := Kd.R_slice HO_9.out
                  subst eo45
                  obtain ⟨Ao46, co46, eo46⟩ := Kd.R_slice HO_6.out
                  subst eo46
                  go_wp2_with (first | (go_at_call 19; (with_reducible refine (laws_eqEventS.calls kj11 _ _ t404 _ _ t393 true _ ?side1 ?side2 ?side3 ?side4 A43.out).mono ?_); (case side1 => repeat (first | exact (Kd.R_reads' HO_9.out).2.2 | (with_reducible refine Kd.C_alloc ?_ _) | (with_reducible refine Kd.C_drewN ?_ _) | (with_reducible refine Kd.C_drew ?_))); (case side2 => exact (Kd.R_reads' HO_9.out).2.1); (case side3 => repeat (first | exact (Kd.R_reads' HO_6.out).2.2 | (with_reducible refine Kd.C_alloc ?_ _) | (with_reducible refine Kd.C_drewN ?_ _) | (with_reducible refine Kd.C_drew ?_))); (case side4 => exact (Kd.R_reads' HO_6.out).2.1); rintro e w47 ⟨rfl, hb⟩; have n0_ := Aside0.mk (Kd.R_below (by (with_reducible repeat (first | apply Kd.R_alloc | apply Kd.R_drewN | apply Kd.R_drew)); exact HO_6.out) hb); have n1_ := Aside0.mk (Kd.R_below (by (with_reducible repeat (first | apply Kd.R_alloc | apply Kd.R_drewN | apply Kd.R_drew)); exact HO_8.out) hb); have n2_ := Aside0.mk (Kd.R_below (by (with_reducible repeat (first | apply Kd.R_alloc | apply Kd.R_drewN | apply Kd.R_drew)); exact HO_9.out) hb); have n3_ := Aside0.mk (Kd.R_below (by (with_reducible repeat (first | apply Kd.R_alloc | apply Kd.R_drewN | apply Kd.R_drew)); exact HO411.out) hb); have n4_ := Aside0.mk (blk_below (g := gb384) (o := .cells #[.int .i64 a1_0, .int .i64 a1_1, .int .i64 a1_2, .int .i64 a1_3] 34 (0, 0)) (by (with_reducible repeat (first | refine blk_drewN ?_ _ | refine blk_drew ?_ | refine blk_alloc ?_ _)); exact BK384.out) hb); have n5_ := Aside0.mk (below_step (by repeat (first | (with_reducible first | exact HB.out | apply below_alloc | apply pw_below_drewN | apply below_drew1 | refine below_set ?_ GE384.out) | exact HB.out)) hb); clear HO_6; clear HO_8; clear HO_9; clear HO411; clear BK384; clear HB; have HO_6 := n0_; have HO_8 := n1_; have HO_9 := n2_; have HO411 := n3_; have BK384 := n4_; have HB := n5_; clear n0_ n1_ n2_ n3_ n4_ n5_; (try clear hb); (try clear hb2); (try clear hk); (try clear hi)))
                  go_meet
                  case rel => exact ⟨_, ((t407 != t396)), (by first | rfl | (simp; done) | (simp [*]; done)), H', ⟨by have := HJ11.out; first | omega | exact Nat.le_refl _⟩, ⟨by (with_reducible repeat (first | apply Kd.R_alloc | apply Kd.R_drewN | apply Kd.R_drew)); exact Kd.R_mono HO_6.out (fun _ hk => hk.2.1)⟩, ⟨by (with_reducible repeat (first | apply Kd.R_alloc | apply Kd.R_drewN | apply Kd.R_drew)); exact Kd.R_mono HO_9.out (fun _ hk => hk.1)⟩, ⟨by (with_reducible repeat (first | refine blk_drewN ?_ _ | refine blk_drew ?_ | refine blk_alloc ?_ _)); exact BK384.out⟩, ⟨by repeat (first | (with_reducible first | exact HB.out | apply below_alloc | apply pw_below_drewN | apply below_drew1 | refine below_set ?_ GE384.out) | exact HB.out)⟩⟩
                · replace c44 := Bool.eq_false_iff.mpr c44
                  subst c44
                  have H1 : (laws_FnExactPutEvent.j1 kj11 l0 t393 t396 t404 true a1_0 a1_1 a1_2 a1_3) = some r := by rw [if_neg (show ¬ (false = true) by decide)] at H; exact H
                  clear H
                  have H := H1
                  clear H1
                  have H' := Aside0.mk H
                  clear H
                  obtain ⟨Ao48, co48, eo48⟩ := Kd.R_slice HO_9.out
                  subst eo48
                  obtain ⟨Ao49, co49, eo49⟩ := Kd.R_slice HO_6.out
                  subst eo49
                  go_wp2_with (first | (go_at_call 19; (with_reducible refine (laws_eqEventS.calls kj11 _ _ t404 _ _ t393 false _ ?side1 ?side2 ?side3 ?side4 A43.out).mono ?_); (case side1 => repeat (first | exact (Kd.R_reads' HO_9.out).2.2 | (with_reducible refine Kd.C_alloc ?_ _) | (with_reducible refine Kd.C_drewN ?_ _) | (with_reducible refine Kd.C_drew ?_))); (case side2 => exact (Kd.R_reads' HO_9.out).2.1); (case side3 => repeat (first | exact (Kd.R_reads' HO_6.out).2.2 | (with_reducible refine Kd.C_alloc ?_ _) | (with_reducible refine Kd.C_drewN ?_ _) | (with_reducible refine Kd.C_drew ?_))); (case side4 => exact (Kd.R_reads' HO_6.out).2.1); rintro e w50 ⟨rfl, hb⟩; have n0_ := Aside0.mk (Kd.R_below (by (with_reducible repeat (first | apply Kd.R_alloc | apply Kd.R_drewN | apply Kd.R_drew)); exact HO_6.out) hb); have n1_ := Aside0.mk (Kd.R_below (by (with_reducible repeat (first | apply Kd.R_alloc | apply Kd.R_drewN | apply Kd.R_drew)); exact HO_8.out) hb); have n2_ := Aside0.mk (Kd.R_below (by (with_reducible repeat (first | apply Kd.R_alloc | apply Kd.R_drewN | apply Kd.R_drew)); exact HO_9.out) hb); have n3_ := Aside0.mk (Kd.R_below (by (with_reducible repeat (first | apply Kd.R_alloc | apply Kd.R_drewN | apply Kd.R_drew)); exact HO411.out) hb); have n4_ := Aside0.mk (blk_below (g := gb384) (o := .cells #[.int .i64 a1_0, .int .i64 a1_1, .int .i64 a1_2, .int .i64 a1_3] 34 (0, 0)) (by (with_reducible repeat (first | refine blk_drewN ?_ _ | refine blk_drew ?_ | refine blk_alloc ?_ _)); exact BK384.out) hb); have n5_ := Aside0.mk (below_step (by repeat (first | (with_reducible first | exact HB.out | apply below_alloc | apply pw_below_drewN | apply below_drew1 | refine below_set ?_ GE384.out) | exact HB.out)) hb); clear HO_6; clear HO_8; clear HO_9; clear HO411; clear BK384; clear HB; have HO_6 := n0_; have HO_8 := n1_; have HO_9 := n2_; have HO411 := n3_; have BK384 := n4_; have HB := n5_; clear n0_ n1_ n2_ n3_ n4_ n5_; (try clear hb); (try clear hb2); (try clear hk); (try clear hi)))
                  go_meet
                  case rel => exact ⟨_, (true), (by first | rfl | (simp; done) | (simp [*]; done)), H', ⟨by have := HJ11.out; first | omega | exact Nat.le_refl _⟩, ⟨by (with_reducible repeat (first | apply Kd.R_alloc | apply Kd.R_drewN | apply Kd.R_drew)); exact Kd.R_mono HO_6.out (fun _ hk => hk.2.1)⟩, ⟨by (with_reducible repeat (first | apply Kd.R_alloc | apply Kd.R_drewN | apply Kd.R_drew)); exact Kd.R_mono HO_9.out (fun _ hk => hk.1)⟩, ⟨by (with_reducible repeat (first | refine blk_drewN ?_ _ | refine blk_drew ?_ | refine blk_alloc ?_ _)); exact BK384.out⟩, ⟨by repeat (first | (with_reducible first | exact HB.out | apply below_alloc | apply pw_below_drewN | apply below_drew1 | refine below_set ?_ GE384.out) | exact HB.out)⟩⟩
            case rest =>
              clear HC37
              try clear c1
              try clear c2
              try clear p2
              try clear c3
              try clear c4
              try clear c4b0
              try clear c7
              try clear c15
              try clear c17
              try clear c19
              try clear c24
              try clear c25
              try clear c27
              try clear c29
              try clear c30
              try clear c32
              try clear c35
              try clear c42
              try clear c42b0
              try clear c44
              try clear hcz20_0
              try clear hcz20_1
              try clear hcz20_2
              try clear hcz20_3
              try clear hfz20_0
              try clear hfz20_1
              try clear hfz20_2
              try clear hfz20_3
              try clear p2
              obtain ⟨kq, x67_36, rfl, HA, HJ36, HO_6, HO_9, BK384, HB⟩ := hcut
              cases kq with
              | zero => exact absurd HA.out (by simp [laws_FnExactPutEvent.j1])
              | succ kj36 =>
                have H := HA.out
                clear HA
                simp only [laws_FnExactPutEvent.j1] at H
                by_cases c51 : x67_36 = true
                · subst c51
                  have H1 : (some false) = some r := by rw [if_pos rfl] at H; exact H
                  clear H
                  have H := H1
                  clear H1
                  obtain rfl := Option.some.inj H
                  go_wp2
                  go_ret
                  exact ⟨by first | rfl | (simp [errW_none, errW_some] <;> rfl) | (simp [*, errW_none, errW_some] <;> rfl), by repeat (first | (with_reducible first | exact HB.out | apply below_alloc | apply pw_below_drewN | apply below_drew1 | refine below_set ?_ GE384.out) | exact HB.out)⟩
                · replace c51 := Bool.eq_false_iff.mpr c51
                  subst c51
                  have H1 : ((laws_markEventS.f kj36 t404 1).bind fun bt416 => ((laws_heldEventS.f kj36 bt416.2 1).bind fun t418 => (if t418 < 0 then (some false) else (if t418 = bt416.1 then ((laws_toEventS.f kj36 l0).bind fun t419 => ((laws_toEvent.f a1_0 a1_1 a1_2 a1_3).bind fun bt422 => ((impl_PutEvent.f kj36 t419 bt422.1 bt422.2.1 bt422.2.2.1 bt422.2.2.2).bind fun bt426 => ((laws_eqEventS.f kj36 bt426.1 t393).bind fun t430 => (if t430 = true then (laws_FnExactPutEvent.j2 kj36 bt416.2 bt416.1 (bt426.2 != t396)) else (laws_FnExactPutEvent.j2 kj36 bt416.2 bt416.1 true)))))) else (some false))))) = some r := by rw [if_neg (show ¬ (false = true) by decide)] at H; exact H
                  clear H
                  have H := H1
                  clear H1
                  replace H := Option.bind_eq_some_iff.mp H
                  obtain ⟨⟨t416, t417⟩, A520, H⟩ := H
                  replace H : ((laws_heldEventS.f kj36 t417 1).bind fun t418 => (if t418 < 0 then (some false) else (if t418 = t416 then ((laws_toEventS.f kj36 l0).bind fun t419 => ((laws_toEvent.f a1_0 a1_1 a1_2 a1_3).bind fun bt422 => ((impl_PutEvent.f kj36 t419 bt422.1 bt422.2.1 bt422.2.2.1 bt422.2.2.2).bind fun bt426 => ((laws_eqEventS.f kj36 bt426.1 t393).bind fun t430 => (if t430 = true then (laws_FnExactPutEvent.j2 kj36 t417 t416 (bt426.2 != t396)) else (laws_FnExactPutEvent.j2 kj36 t417 t416 true)))))) else (some false)))) = some r := H
                  have A52 := Aside0.mk A520
                  clear A520
                  replace H := Option.bind_eq_some_iff.mp H
                  obtain ⟨t418, A530, H⟩ := H
                  replace H : (if t418 < 0 then (some false) else (if t418 = t416 then ((laws_toEventS.f kj36 l0).bind fun t419 => ((laws_toEvent.f a1_0 a1_1 a1_2 a1_3).bind fun bt422 => ((impl_PutEvent.f kj36 t419 bt422.1 bt422.2.1 bt422.2.2.1 bt422.2.2.2).bind fun bt426 => ((laws_eqEventS.f kj36 bt426.1 t393).bind fun t430 => (if t430 = true then (laws_FnExactPutEvent.j2 kj36 t417 t416 (bt426.2 != t396)) else (laws_FnExactPutEvent.j2 kj36 t417 t416 true)))))) else (some false))) = some r := H
                  have A53 := Aside0.mk A530
                  clear A530
                  by_cases c54 : t418 < 0
                  · rw [if_pos c54] at H
                    have c54b0 : decide (t418 < 0) = true := decide_eq_true c54
                    clear c54
                    obtain rfl := Option.some.inj H
                    obtain ⟨Ao55, co55, eo55⟩ := Kd.R_slice HO_9.out
                    subst eo55
                    go_wp2_with (first | ((with_reducible refine gate_callee (f := 24) rfl ?_); refine goesL_ (some 70) rfl rfl Try.func24 (by kernel_rfl) rfl #[.slice Ao55 t404.length co55, .int .i64 1] rfl (by (try simp only [List.map_toArray, List.map_cons, List.map_nil]); first | done | rfl | (simp only [List.length_drop, List.length_take]; rfl)) ?_; (with_reducible refine (laws_markEventS.calls kj36 (fun k_ => some k_ = (.slice Ao55 t404.length co55 : Value).ownBlock) (.slice Ao55 t404.length co55) t404 1 t416 t417 w _ ?side1 ?side2 A52.out).mono ?_); (case side1 => repeat (first | (with_reducible first | exact HB.out | apply below_alloc | apply pw_below_drewN | apply below_drew1 | refine below_set ?_ GE384.out) | exact HB.out)); (case side2 => exact Kd.R_tight rfl HO_9.out); rintro e w56 ⟨rfl, hy0, hb, hkp⟩; refine ⟨_, rfl, ?_⟩; have n0_ := Aside0.mk (Kd.R_mono (ok' := fun k_ => some k_ ≠ (.slice Ao55 t404.length co55 : Value).ownBlock) (Kd.R_keptB (HO_6.out) hkp (fun k_ hk_ hs_ => (hk_) hs_)) (fun k_ hk_ => hk_.1)); have n1_ := Aside0.mk (Kd.R_reok rfl hy0 (fun k_ e_ => HO_9.out.1 k_ e_)); have n2_ := Aside0.mk (blk_kept (by (with_reducible repeat (first | refine blk_drewN ?_ _ | refine blk_drew ?_ | refine blk_alloc ?_ _)); exact BK384.out) hkp (fun hs_ => (fun e_ => (Kd.R_ne HO_9.out BK384.out (by decide)) e_) hs_)); have n3_ := Aside0.mk (hb); clear HO_6; clear HO_9; clear BK384; clear HB; have HO_6 := n0_; have HO_9 := n1_; have BK384 := n2_; have HB := n3_; clear n0_ n1_ n2_ n3_; (try clear hb); (try clear hkp); (try clear hy0)) | ((with_reducible refine gate_callee (f := 25) rfl ?_); refine goesL_ (some 73) rfl rfl Try.func25 (by kernel_rfl) rfl #[.slice Ao55 t417.length co55, .int .i64 1] rfl (by (try simp only [List.map_toArray, List.map_cons, List.map_nil]); first | done | (rw [show t417.length = t404.length from (Kd.R_reads' HO_9.out).1.symm] <;> rfl) | rfl | (simp only [List.length_drop, List.length_take]; rfl)) ?_; (with_reducible refine (laws_heldEventS.calls kj36 _ _ t417 1 t418 _ ?side1 ?side2 A53.out).mono ?_); (case side1 => repeat (first | exact (Kd.R_reads' HO_9.out).2.2 | (with_reducible refine Kd.C_alloc ?_ _) | (with_reducible refine Kd.C_drewN ?_ _) | (with_reducible refine Kd.C_drew ?_))); (case side2 => rw [show t417.length = t404.length from (Kd.R_reads' HO_9.out).1.symm]; exact (Kd.R_reads' HO_9.out).2.1); rintro e w' ⟨rfl, ⟨nd, rfl⟩⟩; refine ⟨_, rfl, ?_⟩))
                    go_ret
                    exact ⟨by first | rfl | (simp [errW_none, errW_some] <;> rfl) | (simp [*, errW_none, errW_some] <;> rfl), by repeat (first | (with_reducible first | exact HB.out | apply below_alloc | apply pw_below_drewN | apply below_drew1 | refine below_set ?_ GE384.out) | exact HB.out)⟩
                  · rw [if_neg c54] at H
                    have c54b0 : decide (t418 < 0) = false := decide_eq_false c54
                    clear c54
                    by_cases c57 : t418 = t416
                    · rw [if_pos c57] at H
                      have c57b0 : (t418 == t416) = true := beq_iff_eq.mpr c57
                      have c57b1 : (t418 != t416) = false := bne_eq_false_iff_eq.mpr c57
                      clear c57
                      replace H := Option.bind_eq_some_iff.mp H
                      obtain ⟨t419, A580, H⟩ := H
                      replace H : ((laws_toEvent.f a1_0 a1_1 a1_2 a1_3).bind fun bt422 => ((impl_PutEvent.f kj36 t419 bt422.1 bt422.2.1 bt422.2.2.1 bt422.2.2.2).bind fun bt426 => ((laws_eqEventS.f kj36 bt426.1 t393).bind fun t430 => (if t430 = true then (laws_FnExactPutEvent.j2 kj36 t417 t416 (bt426.2 != t396)) else (laws_FnExactPutEvent.j2 kj36 t417 t416 true))))) = some r := H
                      have A58 := Aside0.mk A580
                      clear A580
                      replace H := Option.bind_eq_some_iff.mp H
                      obtain ⟨⟨t422, t423, t424, t425⟩, A590, H⟩ := H
                      replace H : ((impl_PutEvent.f kj36 t419 t422 t423 t424 t425).bind fun bt426 => ((laws_eqEventS.f kj36 bt426.1 t393).bind fun t430 => (if t430 = true then (laws_FnExactPutEvent.j2 kj36 t417 t416 (bt426.2 != t396)) else (laws_FnExactPutEvent.j2 kj36 t417 t416 true)))) = some r := H
                      have A59 := Aside0.mk A590
                      clear A590
                      replace H := Option.bind_eq_some_iff.mp H
                      obtain ⟨⟨t426, t429⟩, A600, H⟩ := H
                      replace H : ((laws_eqEventS.f kj36 t426 t393).bind fun t430 => (if t430 = true then (laws_FnExactPutEvent.j2 kj36 t417 t416 (t429 != t396)) else (laws_FnExactPutEvent.j2 kj36 t417 t416 true))) = some r := H
                      have A60 := Aside0.mk A600
                      clear A600
                      have HC61 := Aside0.mk H
                      clear H
                      obtain ⟨Ao62, co62, eo62⟩ := Kd.R_slice HO_9.out
                      subst eo62
                      try go_wp2_with (first | ((with_reducible refine gate_callee (f := 24) rfl ?_); refine goesL_ (some 70) rfl rfl Try.func24 (by kernel_rfl) rfl #[.slice Ao62 t404.length co62, .int .i64 1] rfl (by (try simp only [List.map_toArray, List.map_cons, List.map_nil]); first | done | rfl | (simp only [List.length_drop, List.length_take]; rfl)) ?_; (with_reducible refine (laws_markEventS.calls kj36 (fun k_ => some k_ = (.slice Ao62 t404.length co62 : Value).ownBlock) (.slice Ao62 t404.length co62) t404 1 t416 t417 w _ ?side1 ?side2 A52.out).mono ?_); (case side1 => repeat (first | (with_reducible first | exact HB.out | apply below_alloc | apply pw_below_drewN | apply below_drew1 | refine below_set ?_ GE384.out) | exact HB.out)); (case side2 => exact Kd.R_tight rfl HO_9.out); rintro e w63 ⟨rfl, hy0, hb, hkp⟩; refine ⟨_, rfl, ?_⟩; have n0_ := Aside0.mk (Kd.R_mono (ok' := fun k_ => some k_ ≠ (.slice Ao62 t404.length co62 : Value).ownBlock) (Kd.R_keptB (HO_6.out) hkp (fun k_ hk_ hs_ => (hk_) hs_)) (fun k_ hk_ => hk_.1)); have n1_ := Aside0.mk (Kd.R_reok rfl hy0 (fun k_ e_ => HO_9.out.1 k_ e_)); have n2_ := Aside0.mk (blk_kept (by (with_reducible repeat (first | refine blk_drewN ?_ _ | refine blk_drew ?_ | refine blk_alloc ?_ _)); exact BK384.out) hkp (fun hs_ => (fun e_ => (Kd.R_ne HO_9.out BK384.out (by decide)) e_) hs_)); have n3_ := Aside0.mk (hb); clear HO_6; clear HO_9; clear BK384; clear HB; have HO_6 := n0_; have HO_9 := n1_; have BK384 := n2_; have HB := n3_; clear n0_ n1_ n2_ n3_; (try clear hb); (try clear hkp); (try clear hy0)) | ((with_reducible refine gate_callee (f := 25) rfl ?_); refine goesL_ (some 73) rfl rfl Try.func25 (by kernel_rfl) rfl #[.slice Ao62 t417.length co62, .int .i64 1] rfl (by (try simp only [List.map_toArray, List.map_cons, List.map_nil]); first | done | (rw [show t417.length = t404.length from (Kd.R_reads' HO_9.out).1.symm] <;> rfl) | rfl | (simp only [List.length_drop, List.length_take]; rfl)) ?_; (with_reducible refine (laws_heldEventS.calls kj36 _ _ t417 1 t418 _ ?side1 ?side2 A53.out).mono ?_); (case side1 => repeat (first | exact (Kd.R_reads' HO_9.out).2.2 | (with_reducible refine Kd.C_alloc ?_ _) | (with_reducible refine Kd.C_drewN ?_ _) | (with_reducible refine Kd.C_drew ?_))); (case side2 => rw [show t417.length = t404.length from (Kd.R_reads' HO_9.out).1.symm]; exact (Kd.R_reads' HO_9.out).2.1); rintro e w' ⟨rfl, ⟨nd, rfl⟩⟩; refine ⟨_, rfl, ?_⟩))
                      (try (rw [drewN_self w63]; generalize hq_ : World.drewN w63 _ = w63; have n0_ : Aside0 (Kd.R k37 37 w63 w.heap.size (fun k_ => some k_ ≠ (.slice Ao62 t404.length co62 : Value).ownBlock) v394 t393) := ⟨by rw [← hq_]; exact (by (with_reducible repeat (first | apply Kd.R_alloc | apply Kd.R_drewN | apply Kd.R_drew)); exact HO_6.out)⟩; have n1_ : Aside0 (Kd.R k37 37 w63 w.heap.size (fun k_ => some k_ ≠ (v394 : Value).ownBlock) (.slice Ao62 t404.length co62) t417) := ⟨by rw [← hq_]; exact (by (with_reducible repeat (first | apply Kd.R_alloc | apply Kd.R_drewN | apply Kd.R_drew)); exact HO_9.out)⟩; have n2_ : Aside0 (w63.heap[gb384]? = some (.cells #[.int .i64 a1_0, .int .i64 a1_1, .int .i64 a1_2, .int .i64 a1_3] 34 (0, 0))) := ⟨by rw [← hq_]; exact (by (with_reducible repeat (first | refine blk_drewN ?_ _ | refine blk_drew ?_ | refine blk_alloc ?_ _)); exact BK384.out)⟩; have n3_ : Aside0 (Below w.heap.size w w63) := ⟨by rw [← hq_]; exact (by repeat (first | (with_reducible first | exact HB.out | apply below_alloc | apply pw_below_drewN | apply below_drew1 | refine below_set ?_ GE384.out) | exact HB.out))⟩; clear HO_6 HO_9 BK384 HB hq_; have HO_6 := n0_; have HO_9 := n1_; have BK384 := n2_; have HB := n3_; clear n0_ n1_ n2_ n3_))
                      have n0_ := Aside0.mk (Kd.R_drew HO_6.out)
                      have n1_ := Aside0.mk (Kd.R_drew HO_9.out)
                      have n2_ := Aside0.mk (blk_drew BK384.out)
                      have n3_ := Aside0.mk (below_drew1 HB.out)
                      clear HO_6
                      clear HO_9
                      clear BK384
                      clear HB
                      have HO_6 := n0_
                      have HO_9 := n1_
                      have BK384 := n2_
                      have HB := n3_
                      clear n0_ n1_ n2_ n3_
                      refine start_ (n := 10) (S := fun w' => w'.cell? ⟨gb384, 0, none⟩ = some (.int .i64 a1_0) ∧ w'.cell? ⟨gb384, 1, none⟩ = some (.int .i64 a1_1) ∧ w'.cell? ⟨gb384, 2, none⟩ = some (.int .i64 a1_2) ∧ w'.cell? ⟨gb384, 3, none⟩ = some (.int .i64 a1_3)) (ds := []) #[false, false, false, false, false, false, false, false, false, false] (by kernel_rfl) rfl rfl ⟨(blk_cell BK384.out 0).trans rfl, (blk_cell BK384.out 1).trans rfl, (blk_cell BK384.out 2).trans rfl, (blk_cell BK384.out 3).trans rfl⟩ (fun hHeld => ?_); refine with_tabW laws_FnExactPutEvent.tab24 laws_FnExactPutEvent.bits24 (fun HT_ HW_ => ?_)
                      generalize w63.drew = w64 at HO_6 HO_9 BK384 HB hHeld ⊢
                      refine pure_ (i := 0) (N := some 80) (v := ?_) (a' := ?_) #[true, false, false, false, false, false, false, false, false, false] rfl rfl (any_of HT_.out (by kernel_rfl)) (fun _ _ _ h => h) (Or.inl ⟨by rfl, ?_⟩) ?_ ?_
                      rotate_left
                      · intro w'
                        go_simp
                        with_reducible rfl
                      rotate_left
                      · simp only [Act.put, List.setIfInBounds_toArray, List.set_cons_zero, List.set_cons_succ, i64_w, i32_w]
                        rfl
                      refine take_ (i := 2) (N := some 82) (v := ?_) (a' := ?_) #[true, false, true, false, false, false, false, false, false, false] rfl rfl (take_ofW HT_.out HW_.out (by kernel_rfl)) (fun _ _ _ h => h) (Or.inl ⟨by rfl, ?_⟩) hHeld ?_ ?_
                      rotate_left
                      · rintro w' ⟨s0, s1, s2, s3⟩
                        go_simp
                        with_reducible rfl
                      rotate_left
                      · simp only [Act.put, List.setIfInBounds_toArray, List.set_cons_zero, List.set_cons_succ, i64_w, i32_w]
                        rfl
                      refine one_ (i := 1) (N := some 81) #[true, true, true, false, false, false, false, false, false, false] rfl rfl (one_of HT_.out (by kernel_rfl)) (by decide) (fun K hK => ?_)
                      refine goes_ Try.func17 (by kernel_rfl) rfl #[.slice A0 l0.length c0] (by rfl) rfl rfl (by (try simp only [List.map_toArray, List.map_cons, List.map_nil]); first | done | rfl | (simp only [List.length_drop, List.length_take]; rfl)) ?_
                      with_reducible refine (laws_toEventS.calls kj36 _ _ l0 t419 _ ?side1 ?side2 A58.out).mono ?_
                      (case side1 => repeat (first | exact (Kd.C_below HR0.out HB.out) | (with_reducible refine Kd.C_alloc ?_ _) | (with_reducible refine Kd.C_drewN ?_ _) | (with_reducible refine Kd.C_drew ?_)))
                      (case side2 => exact HC0.out)
                      rintro e w65 ⟨v420, rfl, ho0, hb⟩
                      refine ⟨_, rfl, ?_⟩
                      have n0_ := Aside0.mk (Kd.R_elder' (by (with_reducible repeat (first | apply Kd.R_alloc | apply Kd.R_drewN | apply Kd.R_drew)); exact HO_6.out) (Kd.R_base ho0) hb)
                      have n1_ := Aside0.mk (Kd.R_elder' (by (with_reducible repeat (first | apply Kd.R_alloc | apply Kd.R_drewN | apply Kd.R_drew)); exact HO_9.out) (Kd.R_base ho0) hb)
                      have n2_ := Aside0.mk (Kd.R_lower (Kd.R_new' (Kd.R_new' ho0 (Kd.R_lt (by (with_reducible repeat (first | apply Kd.R_alloc | apply Kd.R_drewN | apply Kd.R_drew)); exact HO_6.out))) (Kd.R_lt (by (with_reducible repeat (first | apply Kd.R_alloc | apply Kd.R_drewN | apply Kd.R_drew)); exact HO_9.out))) (below_size (by repeat (first | (with_reducible first | exact HB.out | apply below_alloc | apply pw_below_drewN | apply below_drew1 | refine below_set ?_ GE384.out) | exact HB.out))))
                      have n3_ := Aside0.mk (blk_below (g := gb384) (o := .cells #[.int .i64 a1_0, .int .i64 a1_1, .int .i64 a1_2, .int .i64 a1_3] 34 (0, 0)) (by (with_reducible repeat (first | refine blk_drewN ?_ _ | refine blk_drew ?_ | refine blk_alloc ?_ _)); exact BK384.out) hb)
                      have n4_ := Aside0.mk (below_step (by repeat (first | (with_reducible first | exact HB.out | apply below_alloc | apply pw_below_drewN | apply below_drew1 | refine below_set ?_ GE384.out) | exact HB.out)) hb)
                      clear HO_6
                      clear HO_9
                      clear BK384
                      clear HB
                      have HO_6 := n0_
                      have HO_9 := n1_
                      have HO421 := n2_
                      have BK384 := n3_
                      have HB := n4_
                      clear n0_ n1_ n2_ n3_ n4_
                      (try clear hb)
                      (try clear hb2)
                      (try clear hk)
                      (try clear hi)
                      (try clear ho0)
                      refine hK.out _ _ ⟨(blk_cell BK384.out 0).trans rfl, (blk_cell BK384.out 1).trans rfl, (blk_cell BK384.out 2).trans rfl, (blk_cell BK384.out 3).trans rfl⟩ (fun hHeld => ?_)
                      clear hK K
                      refine norm_ (a' := ?_) ?_ ?_
                      rotate_left
                      · show Act.put _ (some 81) _ = _
                        simp only [Act.put, List.setIfInBounds_toArray, List.set_cons_zero, List.set_cons_succ, i64_w, i32_w]
                        rfl
                      refine one_ (i := 3) (N := some 83) #[true, true, true, true, false, false, false, false, false, false] rfl rfl (one_of HT_.out (by kernel_rfl)) (by decide) (fun K hK => ?_)
                      refine goes_ Try.func27 (by kernel_rfl) rfl #[.agg #[.int .i64 a1_0, .int .i64 a1_1, .int .i64 a1_2, .int .i64 a1_3]] (by rfl) rfl rfl (by (try simp only [List.map_toArray, List.map_cons, List.map_nil]); first | done | rfl | (simp only [List.length_drop, List.length_take]; rfl)) ?_
                      with_reducible refine (laws_toEvent.calls a1_0 a1_1 a1_2 a1_3 t422 t423 t424 t425 _ A59.out).mono ?_
                      rintro e w66 ⟨rfl, hb⟩
                      refine ⟨_, rfl, ?_⟩
                      have n0_ := Aside0.mk (Kd.R_below (by (with_reducible repeat (first | apply Kd.R_alloc | apply Kd.R_drewN | apply Kd.R_drew)); exact HO_6.out) hb)
                      have n1_ := Aside0.mk (Kd.R_below (by (with_reducible repeat (first | apply Kd.R_alloc | apply Kd.R_drewN | apply Kd.R_drew)); exact HO_9.out) hb)
                      have n2_ := Aside0.mk (Kd.R_below (by (with_reducible repeat (first | apply Kd.R_alloc | apply Kd.R_drewN | apply Kd.R_drew)); exact HO421.out) hb)
                      have n3_ := Aside0.mk (blk_below (g := gb384) (o := .cells #[.int .i64 a1_0, .int .i64 a1_1, .int .i64 a1_2, .int .i64 a1_3] 34 (0, 0)) (by (with_reducible repeat (first | refine blk_drewN ?_ _ | refine blk_drew ?_ | refine blk_alloc ?_ _)); exact BK384.out) hb)
                      have n4_ := Aside0.mk (below_step (by repeat (first | (with_reducible first | exact HB.out | apply below_alloc | apply pw_below_drewN | apply below_drew1 | refine below_set ?_ GE384.out) | exact HB.out)) hb)
                      clear HO_6
                      clear HO_9
                      clear HO421
                      clear BK384
                      clear HB
                      have HO_6 := n0_
                      have HO_9 := n1_
                      have HO421 := n2_
                      have BK384 := n3_
                      have HB := n4_
                      clear n0_ n1_ n2_ n3_ n4_
                      (try clear hb)
                      (try clear hb2)
                      (try clear hk)
                      (try clear hi)
                      obtain ⟨Ao67, co67, eo67⟩ := Kd.R_slice HO421.out
                      (first | subst eo67 | (injection eo67 with f1_ f2_ f3_; have f4_ := f1_.symm; have f5_ := f3_.symm; clear f1_ f2_ f3_; subst f4_; subst f5_))
                      refine hK.out _ _ ⟨(blk_cell BK384.out 0).trans rfl, (blk_cell BK384.out 1).trans rfl, (blk_cell BK384.out 2).trans rfl, (blk_cell BK384.out 3).trans rfl⟩ (fun hHeld => ?_)
                      clear hK K
                      refine norm_ (a' := ?_) ?_ ?_
                      rotate_left
                      · show Act.put _ (some 83) _ = _
                        simp only [Act.put, List.setIfInBounds_toArray, List.set_cons_zero, List.set_cons_succ, i64_w, i32_w]
                        rfl
                      refine one_ (i := 4) (N := some 84) #[true, true, true, true, true, false, false, false, false, false] rfl rfl (one_of HT_.out (by kernel_rfl)) (by decide) (fun K hK => ?_)
                      refine goes_ Try.func30 (by kernel_rfl) rfl #[.slice Ao67 t419.length co67, .agg #[.int .i64 t422, .int .i64 t423, .int .i64 t424, .int .i64 t425]] (by rfl) rfl rfl (by (try simp only [List.map_toArray, List.map_cons, List.map_nil]); first | done | rfl | (simp only [List.length_drop, List.length_take]; rfl)) ?_
                      with_reducible refine (impl_PutEvent.calls kj36 _ _ t419 t422 t423 t424 t425 t426 t429 _ ?side1 ?side2 A60.out).mono ?_
                      (case side1 => repeat (first | exact (Kd.R_reads' HO421.out).2.2 | (with_reducible refine Kd.C_alloc ?_ _) | (with_reducible refine Kd.C_drewN ?_ _) | (with_reducible refine Kd.C_drew ?_)))
                      (case side2 => exact (Kd.R_reads' HO421.out).2.1)
                      rintro e w68 ⟨v427, rfl, ho0, hb⟩
                      refine ⟨_, rfl, ?_⟩
                      have n0_ := Aside0.mk (Kd.R_elder' (by (with_reducible repeat (first | apply Kd.R_alloc | apply Kd.R_drewN | apply Kd.R_drew)); exact HO_6.out) (Kd.R_base ho0) hb)
                      have n1_ := Aside0.mk (Kd.R_elder' (by (with_reducible repeat (first | apply Kd.R_alloc | apply Kd.R_drewN | apply Kd.R_drew)); exact HO_9.out) (Kd.R_base ho0) hb)
                      have n2_ := Aside0.mk (Kd.R_elder' (by (with_reducible repeat (first | apply Kd.R_alloc | apply Kd.R_drewN | apply Kd.R_drew)); exact HO421.out) (Kd.R_base ho0) hb)
                      have n3_ := Aside0.mk (Kd.R_lower (Kd.R_new' (Kd.R_new' (Kd.R_new' ho0 (Kd.R_lt (by (with_reducible repeat (first | apply Kd.R_alloc | apply Kd.R_drewN | apply Kd.R_drew)); exact HO_6.out))) (Kd.R_lt (by (with_reducible repeat (first | apply Kd.R_alloc | apply Kd.R_drewN | apply Kd.R_drew)); exact HO_9.out))) (Kd.R_lt (by (with_reducible repeat (first | apply Kd.R_alloc | apply Kd.R_drewN | apply Kd.R_drew)); exact HO421.out))) (below_size (by repeat (first | (with_reducible first | exact HB.out | apply below_alloc | apply pw_below_drewN | apply below_drew1 | refine below_set ?_ GE384.out) | exact HB.out))))
                      have n4_ := Aside0.mk (blk_below (g := gb384) (o := .cells #[.int .i64 a1_0, .int .i64 a1_1, .int .i64 a1_2, .int .i64 a1_3] 34 (0, 0)) (by (with_reducible repeat (first | refine blk_drewN ?_ _ | refine blk_drew ?_ | refine blk_alloc ?_ _)); exact BK384.out) hb)
                      have n5_ := Aside0.mk (below_step (by repeat (first | (with_reducible first | exact HB.out | apply below_alloc | apply pw_below_drewN | apply below_drew1 | refine below_set ?_ GE384.out) | exact HB.out)) hb)
                      clear HO_6
                      clear HO_9
                      clear HO421
                      clear BK384
                      clear HB
                      have HO_6 := n0_
                      have HO_9 := n1_
                      have HO421 := n2_
                      have HO428 := n3_
                      have BK384 := n4_
                      have HB := n5_
                      clear n0_ n1_ n2_ n3_ n4_ n5_
                      (try clear hb)
                      (try clear hb2)
                      (try clear hk)
                      (try clear hi)
                      (try clear ho0)
                      refine hK.out _ _ ⟨(blk_cell BK384.out 0).trans rfl, (blk_cell BK384.out 1).trans rfl, (blk_cell BK384.out 2).trans rfl, (blk_cell BK384.out 3).trans rfl⟩ (fun hHeld => ?_)
                      clear hK K
                      refine norm_ (a' := ?_) ?_ ?_
                      rotate_left
                      · show Act.put _ (some 84) _ = _
                        simp only [Act.put, List.setIfInBounds_toArray, List.set_cons_zero, List.set_cons_succ, i64_w, i32_w]
                        rfl
                      refine pure_ (i := 5) (N := some 79) (v := ?_) (a' := ?_) #[true, true, true, true, true, true, false, false, false, false] rfl rfl (any_of HT_.out (by kernel_rfl)) (fun _ _ _ h => h) (Or.inl ⟨by rfl, ?_⟩) ?_ ?_
                      rotate_left
                      · intro w'
                        go_simp
                        with_reducible rfl
                      rotate_left
                      · simp only [Act.put, List.setIfInBounds_toArray, List.set_cons_zero, List.set_cons_succ, i64_w, i32_w]
                        rfl
                      refine pure_ (i := 6) (N := some 85) (v := ?_) (a' := ?_) #[true, true, true, true, true, true, true, false, false, false] rfl rfl (any_of HT_.out (by kernel_rfl)) (fun _ _ _ h => h) (Or.inl ⟨by rfl, ?_⟩) ?_ ?_
                      rotate_left
                      · intro w'
                        go_simp
                        with_reducible rfl
                      rotate_left
                      · simp only [Act.put, List.setIfInBounds_toArray, List.set_cons_zero, List.set_cons_succ, i64_w, i32_w]
                        rfl
                      refine pure_ (i := 7) (N := some 86) (v := ?_) (a' := ?_) #[true, true, true, true, true, true, true, true, false, false] rfl rfl (any_of HT_.out (by kernel_rfl)) (fun _ _ _ h => h) (Or.inl ⟨by rfl, ?_⟩) ?_ ?_
                      rotate_left
                      · intro w'
                        go_simp
                        with_reducible rfl
                      rotate_left
                      · simp only [Act.put, List.setIfInBounds_toArray, List.set_cons_zero, List.set_cons_succ, i64_w, i32_w]
                        rfl
                      refine pure_ (i := 8) (N := some 14) (v := ?_) (a' := ?_) #[true, true, true, true, true, true, true, true, true, false] rfl rfl (any_of HT_.out (by kernel_rfl)) (fun _ _ _ h => h) (Or.inl ⟨by rfl, ?_⟩) ?_ ?_
                      rotate_left
                      · intro w'
                        go_simp
                        with_reducible rfl
                      rotate_left
                      · simp only [Act.put, List.setIfInBounds_toArray, List.set_cons_zero, List.set_cons_succ, i64_w, i32_w]
                        rfl
                      refine pure_ (i := 9) (N := some 15) (v := ?_) (a' := ?_) #[true, true, true, true, true, true, true, true, true, true] rfl rfl (any_of HT_.out (by kernel_rfl)) (fun _ _ _ h => h) (Or.inl ⟨by rfl, ?_⟩) ?_ ?_
                      rotate_left
                      · intro w'
                        go_simp
                        with_reducible rfl
                      rotate_left
                      · simp only [Act.put, List.setIfInBounds_toArray, List.set_cons_zero, List.set_cons_succ, i64_w, i32_w]
                        rfl
                      refine done_ (done_of HT_.out (by kernel_rfl)) ?_
                      go_upto_region 25 with (fail)
                      go_cut [95] (fun v95 wc => ∃ (kq : Nat) (x95_60 : Bool), v95 = .bool x95_60 ∧ Aside0 (laws_FnExactPutEvent.j2 kq t417 t416 x95_60 = some r) ∧ Aside0 (kq ≤ kj36) ∧ Aside0 (Kd.R k37 37 wc w.heap.size (fun _ => True) (.slice Ao62 t404.length co62) t417) ∧ Aside0 (wc.heap[gb384]? = some (.cells #[.int .i64 a1_0, .int .i64 a1_1, .int .i64 a1_2, .int .i64 a1_3] 34 (0, 0))) ∧ Aside0 (Below w.heap.size w wc))
                      case first =>
                        have H := HC61.out
                        clear HC61
                        replace H := Option.bind_eq_some_iff.mp H
                        obtain ⟨t430, A690, H⟩ := H
                        replace H : (if t430 = true then (laws_FnExactPutEvent.j2 kj36 t417 t416 (t429 != t396)) else (laws_FnExactPutEvent.j2 kj36 t417 t416 true)) = some r := H
                        have A69 := Aside0.mk A690
                        clear A690
                        by_cases c70 : t430 = true
                        · subst c70
                          have H1 : (laws_FnExactPutEvent.j2 kj36 t417 t416 (t429 != t396)) = some r := by rw [if_pos rfl] at H; exact H
                          clear H
                          have H := H1
                          clear H1
                          have H' := Aside0.mk H
                          clear H
                          obtain ⟨Ao71, co71, eo71⟩ := Kd.R_slice HO428.out
                          subst eo71
                          obtain ⟨Ao72, co72, eo72⟩ := Kd.R_slice HO_6.out
                          subst eo72
                          go_wp2_with (first | ((with_reducible refine gate_callee (f := 19) rfl ?_); refine goesL_ (some 89) rfl rfl Try.func19 (by kernel_rfl) rfl #[.slice Ao71 t426.length co71, .slice Ao72 t393.length co72] rfl (by (try simp only [List.map_toArray, List.map_cons, List.map_nil]); first | done | rfl | (simp only [List.length_drop, List.length_take]; rfl)) ?_; (with_reducible refine (laws_eqEventS.calls kj36 _ _ t426 _ _ t393 true _ ?side1 ?side2 ?side3 ?side4 A69.out).mono ?_); (case side1 => repeat (first | exact (Kd.R_reads' HO428.out).2.2 | (with_reducible refine Kd.C_alloc ?_ _) | (with_reducible refine Kd.C_drewN ?_ _) | (with_reducible refine Kd.C_drew ?_))); (case side2 => exact (Kd.R_reads' HO428.out).2.1); (case side3 => repeat (first | exact (Kd.R_reads' HO_6.out).2.2 | (with_reducible refine Kd.C_alloc ?_ _) | (with_reducible refine Kd.C_drewN ?_ _) | (with_reducible refine Kd.C_drew ?_))); (case side4 => exact (Kd.R_reads' HO_6.out).2.1); rintro e w73 ⟨rfl, hb⟩; refine ⟨_, rfl, ?_⟩; have n0_ := Aside0.mk (Kd.R_below (by (with_reducible repeat (first | apply Kd.R_alloc | apply Kd.R_drewN | apply Kd.R_drew)); exact HO_6.out) hb); have n1_ := Aside0.mk (Kd.R_below (by (with_reducible repeat (first | apply Kd.R_alloc | apply Kd.R_drewN | apply Kd.R_drew)); exact HO_9.out) hb); have n2_ := Aside0.mk (Kd.R_below (by (with_reducible repeat (first | apply Kd.R_alloc | apply Kd.R_drewN | apply Kd.R_drew)); exact HO421.out) hb); have n3_ := Aside0.mk (Kd.R_below (by (with_reducible repeat (first | apply Kd.R_alloc | apply Kd.R_drewN | apply Kd.R_drew)); exact HO428.out) hb); have n4_ := Aside0.mk (blk_below (g := gb384) (o := .cells #[.int .i64 a1_0, .int .i64 a1_1, .int .i64 a1_2, .int .i64 a1_3] 34 (0, 0)) (by (with_reducible repeat (first | refine blk_drewN ?_ _ | refine blk_drew ?_ | refine blk_alloc ?_ _)); exact BK384.out) hb); have n5_ := Aside0.mk (below_step (by repeat (first | (with_reducible first | exact HB.out | apply below_alloc | apply pw_below_drewN | apply below_drew1 | refine below_set ?_ GE384.out) | exact HB.out)) hb); clear HO_6; clear HO_9; clear HO421; clear HO428; clear BK384; clear HB; have HO_6 := n0_; have HO_9 := n1_; have HO421 := n2_; have HO428 := n3_; have BK384 := n4_; have HB := n5_; clear n0_ n1_ n2_ n3_ n4_ n5_; (try clear hb); (try clear hb2); (try clear hk); (try clear hi)))
                          go_meet
                          case rel => exact ⟨_, ((t429 != t396)), (by first | rfl | (simp; done) | (simp [*]; done)), H', ⟨by have := HJ11.out; have := HJ36.out; first | omega | exact Nat.le_refl _⟩, ⟨by (with_reducible repeat (first | apply Kd.R_alloc | apply Kd.R_drewN | apply Kd.R_drew)); exact Kd.R_mono HO_9.out (fun _ hk => trivial)⟩, ⟨by (with_reducible repeat (first | refine blk_drewN ?_ _ | refine blk_drew ?_ | refine blk_alloc ?_ _)); exact BK384.out⟩, ⟨by repeat (first | (with_reducible first | exact HB.out | apply below_alloc | apply pw_below_drewN | apply below_drew1 | refine below_set ?_ GE384.out) | exact HB.out)⟩⟩
                        · replace c70 := Bool.eq_false_iff.mpr c70
                          subst c70
                          have H1 : (laws_FnExactPutEvent.j2 kj36 t417 t416 true) = some r := by rw [if_neg (show ¬ (false = true) by decide)] at H; exact H
                          clear H
                          have H := H1
                          clear H1
                          have H' := Aside0.mk H
                          clear H
                          obtain ⟨Ao74, co74, eo74⟩ := Kd.R_slice HO428.out
                          subst eo74
                          obtain ⟨Ao75, co75, eo75⟩ := Kd.R_slice HO_6.out
                          subst eo75
                          go_wp2_with (first | ((with_reducible refine gate_callee (f := 19) rfl ?_); refine goesL_ (some 89) rfl rfl Try.func19 (by kernel_rfl) rfl #[.slice Ao74 t426.length co74, .slice Ao75 t393.length co75] rfl (by (try simp only [List.map_toArray, List.map_cons, List.map_nil]); first | done | rfl | (simp only [List.length_drop, List.length_take]; rfl)) ?_; (with_reducible refine (laws_eqEventS.calls kj36 _ _ t426 _ _ t393 false _ ?side1 ?side2 ?side3 ?side4 A69.out).mono ?_); (case side1 => repeat (first | exact (Kd.R_reads' HO428.out).2.2 | (with_reducible refine Kd.C_alloc ?_ _) | (with_reducible refine Kd.C_drewN ?_ _) | (with_reducible refine Kd.C_drew ?_))); (case side2 => exact (Kd.R_reads' HO428.out).2.1); (case side3 => repeat (first | exact (Kd.R_reads' HO_6.out).2.2 | (with_reducible refine Kd.C_alloc ?_ _) | (with_reducible refine Kd.C_drewN ?_ _) | (with_reducible refine Kd.C_drew ?_))); (case side4 => exact (Kd.R_reads' HO_6.out).2.1); rintro e w76 ⟨rfl, hb⟩; refine ⟨_, rfl, ?_⟩; have n0_ := Aside0.mk (Kd.R_below (by (with_reducible repeat (first | apply Kd.R_alloc | apply Kd.R_drewN | apply Kd.R_drew)); exact HO_6.out) hb); have n1_ := Aside0.mk (Kd.R_below (by (with_reducible repeat (first | apply Kd.R_alloc | apply Kd.R_drewN | apply Kd.R_drew)); exact HO_9.out) hb); have n2_ := Aside0.mk (Kd.R_below (by (with_reducible repeat (first | apply Kd.R_alloc | apply Kd.R_drewN | apply Kd.R_drew)); exact HO421.out) hb); have n3_ := Aside0.mk (Kd.R_below (by (with_reducible repeat (first | apply Kd.R_alloc | apply Kd.R_drewN | apply Kd.R_drew)); exact HO428.out) hb); have n4_ := Aside0.mk (blk_below (g := gb384) (o := .cells #[.int .i64 a1_0, .int .i64 a1_1, .int .i64 a1_2, .int .i64 a1_3] 34 (0, 0)) (by (with_reducible repeat (first | refine blk_drewN ?_ _ | refine blk_drew ?_ | refine blk_alloc ?_ _)); exact BK384.out) hb); have n5_ := Aside0.mk (below_step (by repeat (first | (with_reducible first | exact HB.out | apply below_alloc | apply pw_below_drewN | apply below_drew1 | refine below_set ?_ GE384.out) | exact HB.out)) hb); clear HO_6; clear HO_9; clear HO421; clear HO428; clear BK384; clear HB; have HO_6 := n0_; have HO_9 := n1_; have HO421 := n2_; have HO428 := n3_; have BK384 := n4_; have HB := n5_; clear n0_ n1_ n2_ n3_ n4_ n5_; (try clear hb); (try clear hb2); (try clear hk); (try clear hi)))
                          go_meet
                          case rel => exact ⟨_, (true), (by first | rfl | (simp; done) | (simp [*]; done)), H', ⟨by have := HJ11.out; have := HJ36.out; first | omega | exact Nat.le_refl _⟩, ⟨by (with_reducible repeat (first | apply Kd.R_alloc | apply Kd.R_drewN | apply Kd.R_drew)); exact Kd.R_mono HO_9.out (fun _ hk => trivial)⟩, ⟨by (with_reducible repeat (first | refine blk_drewN ?_ _ | refine blk_drew ?_ | refine blk_alloc ?_ _)); exact BK384.out⟩, ⟨by repeat (first | (with_reducible first | exact HB.out | apply below_alloc | apply pw_below_drewN | apply below_drew1 | refine below_set ?_ GE384.out) | exact HB.out)⟩⟩
                      case rest =>
                        clear HC61
                        try clear c1
                        try clear c2
                        try clear p2
                        try clear c3
                        try clear c4
                        try clear c4b0
                        try clear c5
                        try clear c7
                        try clear c15
                        try clear c17
                        try clear c19
                        try clear c24
                        try clear c25
                        try clear c27
                        try clear c29
                        try clear c30
                        try clear c32
                        try clear c35
                        try clear c42
                        try clear c42b0
                        try clear c44
                        try clear c51
                        try clear c54
                        try clear c54b0
                        try clear c57
                        try clear c57b0
                        try clear c57b1
                        try clear c70
                        try clear hcz20_0
                        try clear hcz20_1
                        try clear hcz20_2
                        try clear hcz20_3
                        try clear hfz20_0
                        try clear hfz20_1
                        try clear hfz20_2
                        try clear hfz20_3
                        try clear p2
                        obtain ⟨kq, x95_60, rfl, HA, HJ60, HO_9, BK384, HB⟩ := hcut
                        have hl9_60 := (Kd.R_reads' HO_9.out).1
                        rw [hl9_60] at HO_9
                        (try simp only [hl9_60])
                        (try simp only [hl9_60] at BK384)
                        cases kq with
                        | zero => exact absurd HA.out (by simp [laws_FnExactPutEvent.j2])
                        | succ kj60 =>
                          have H := HA.out
                          clear HA
                          simp only [laws_FnExactPutEvent.j2] at H
                          by_cases c77 : x95_60 = true
                          · subst c77
                            have H1 : (some false) = some r := by rw [if_pos rfl] at H; exact H
                            clear H
                            have H := H1
                            clear H1
                            obtain rfl := Option.some.inj H
                            go_wp2
                            go_ret
                            exact ⟨by first | rfl | (simp [errW_none, errW_some] <;> rfl) | (simp [*, errW_none, errW_some] <;> rfl), by repeat (first | (with_reducible first | exact HB.out | apply below_alloc | apply pw_below_drewN | apply below_drew1 | refine below_set ?_ GE384.out) | exact HB.out)⟩
                          · replace c77 := Bool.eq_false_iff.mpr c77
                            subst c77
                            have H1 : ((laws_heldEventS.f kj60 t417 1).bind fun t431 => (if t431 < 0 then (some false) else (if t431 = t416 then (some true) else (some false)))) = some r := by rw [if_neg (show ¬ (false = true) by decide)] at H; exact H
                            clear H
                            have H := H1
                            clear H1
                            replace H := Option.bind_eq_some_iff.mp H
                            obtain ⟨t431, A780, H⟩ := H
                            replace H : (if t431 < 0 then (some false) else (if t431 = t416 then (some true) else (some false))) = some r := H
                            have A78 := Aside0.mk A780
                            clear A780
                            by_cases c79 : t431 < 0
                            · rw [if_pos c79] at H
                              have c79b0 : decide (t431 < 0) = true := decide_eq_true c79
                              clear c79
                              obtain rfl := Option.some.inj H
                              go_wp2_with (first | ((with_reducible refine gate_callee (f := 25) rfl ?_); refine goesL_ (some 98) rfl rfl Try.func25 (by kernel_rfl) rfl #[.slice Ao62 t417.length co62, .int .i64 1] rfl (by (try simp only [List.map_toArray, List.map_cons, List.map_nil]); first | done | rfl | (simp only [List.length_drop, List.length_take]; rfl)) ?_; (with_reducible refine (laws_heldEventS.calls kj60 _ _ t417 1 t431 _ ?side1 ?side2 A78.out).mono ?_); (case side1 => repeat (first | exact (Kd.R_reads' HO_9.out).2.2 | (with_reducible refine Kd.C_alloc ?_ _) | (with_reducible refine Kd.C_drewN ?_ _) | (with_reducible refine Kd.C_drew ?_))); (case side2 => exact (Kd.R_reads' HO_9.out).2.1); rintro e w' ⟨rfl, ⟨nd, rfl⟩⟩; refine ⟨_, rfl, ?_⟩))
                              go_ret
                              exact ⟨by first | rfl | (simp [errW_none, errW_some] <;> rfl) | (simp [*, errW_none, errW_some] <;> rfl), by repeat (first | (with_reducible first | exact HB.out | apply below_alloc | apply pw_below_drewN | apply below_drew1 | refine below_set ?_ GE384.out) | exact HB.out)⟩
                            · rw [if_neg c79] at H
                              have c79b0 : decide (t431 < 0) = false := decide_eq_false c79
                              clear c79
                              by_cases c80 : t431 = t416
                              · rw [if_pos c80] at H
                                have c80b0 : (t431 == t416) = true := beq_iff_eq.mpr c80
                                have c80b1 : (t431 != t416) = false := bne_eq_false_iff_eq.mpr c80
                                clear c80
                                obtain rfl := Option.some.inj H
                                go_wp2_with (first | ((with_reducible refine gate_callee (f := 25) rfl ?_); refine goesL_ (some 98) rfl rfl Try.func25 (by kernel_rfl) rfl #[.slice Ao62 t417.length co62, .int .i64 1] rfl (by (try simp only [List.map_toArray, List.map_cons, List.map_nil]); first | done | rfl | (simp only [List.length_drop, List.length_take]; rfl)) ?_; (with_reducible refine (laws_heldEventS.calls kj60 _ _ t417 1 t431 _ ?side1 ?side2 A78.out).mono ?_); (case side1 => repeat (first | exact (Kd.R_reads' HO_9.out).2.2 | (with_reducible refine Kd.C_alloc ?_ _) | (with_reducible refine Kd.C_drewN ?_ _) | (with_reducible refine Kd.C_drew ?_))); (case side2 => exact (Kd.R_reads' HO_9.out).2.1); rintro e w' ⟨rfl, ⟨nd, rfl⟩⟩; refine ⟨_, rfl, ?_⟩))
                                go_ret
                                exact ⟨by first | rfl | (simp [errW_none, errW_some] <;> rfl) | (simp [*, errW_none, errW_some] <;> rfl), by repeat (first | (with_reducible first | exact HB.out | apply below_alloc | apply pw_below_drewN | apply below_drew1 | refine below_set ?_ GE384.out) | exact HB.out)⟩
                              · rw [if_neg c80] at H
                                have c80b0 : (t431 == t416) = false := beq_eq_false_iff_ne.mpr c80
                                have c80b1 : (t431 != t416) = true := bne_iff_ne.mpr c80
                                obtain rfl := Option.some.inj H
                                go_wp2_with (first | ((with_reducible refine gate_callee (f := 25) rfl ?_); refine goesL_ (some 98) rfl rfl Try.func25 (by kernel_rfl) rfl #[.slice Ao62 t417.length co62, .int .i64 1] rfl (by (try simp only [List.map_toArray, List.map_cons, List.map_nil]); first | done | rfl | (simp only [List.length_drop, List.length_take]; rfl)) ?_; (with_reducible refine (laws_heldEventS.calls kj60 _ _ t417 1 t431 _ ?side1 ?side2 A78.out).mono ?_); (case side1 => repeat (first | exact (Kd.R_reads' HO_9.out).2.2 | (with_reducible refine Kd.C_alloc ?_ _) | (with_reducible refine Kd.C_drewN ?_ _) | (with_reducible refine Kd.C_drew ?_))); (case side2 => exact (Kd.R_reads' HO_9.out).2.1); rintro e w' ⟨rfl, ⟨nd, rfl⟩⟩; refine ⟨_, rfl, ?_⟩))
                                go_ret
                                exact ⟨by first | rfl | (simp [errW_none, errW_some] <;> rfl) | (simp [*, errW_none, errW_some] <;> rfl), by repeat (first | (with_reducible first | exact HB.out | apply below_alloc | apply pw_below_drewN | apply below_drew1 | refine below_set ?_ GE384.out) | exact HB.out)⟩
                    · rw [if_neg c57] at H
                      have c57b0 : (t418 == t416) = false := beq_eq_false_iff_ne.mpr c57
                      have c57b1 : (t418 != t416) = true := bne_iff_ne.mpr c57
                      obtain rfl := Option.some.inj H
                      obtain ⟨Ao81, co81, eo81⟩ := Kd.R_slice HO_9.out
                      subst eo81
                      go_wp2_with (first | ((with_reducible refine gate_callee (f := 24) rfl ?_); refine goesL_ (some 70) rfl rfl Try.func24 (by kernel_rfl) rfl #[.slice Ao81 t404.length co81, .int .i64 1] rfl (by (try simp only [List.map_toArray, List.map_cons, List.map_nil]); first | done | rfl | (simp only [List.length_drop, List.length_take]; rfl)) ?_; (with_reducible refine (laws_markEventS.calls kj36 (fun k_ => some k_ = (.slice Ao81 t404.length co81 : Value).ownBlock) (.slice Ao81 t404.length co81) t404 1 t416 t417 w _ ?side1 ?side2 A52.out).mono ?_); (case side1 => repeat (first | (with_reducible first | exact HB.out | apply below_alloc | apply pw_below_drewN | apply below_drew1 | refine below_set ?_ GE384.out) | exact HB.out)); (case side2 => exact Kd.R_tight rfl HO_9.out); rintro e w82 ⟨rfl, hy0, hb, hkp⟩; refine ⟨_, rfl, ?_⟩; have n0_ := Aside0.mk (Kd.R_mono (ok' := fun k_ => some k_ ≠ (.slice Ao81 t404.length co81 : Value).ownBlock) (Kd.R_keptB (HO_6.out) hkp (fun k_ hk_ hs_ => (hk_) hs_)) (fun k_ hk_ => hk_.1)); have n1_ := Aside0.mk (Kd.R_reok rfl hy0 (fun k_ e_ => HO_9.out.1 k_ e_)); have n2_ := Aside0.mk (blk_kept (by (with_reducible repeat (first | refine blk_drewN ?_ _ | refine blk_drew ?_ | refine blk_alloc ?_ _)); exact BK384.out) hkp (fun hs_ => (fun e_ => (Kd.R_ne HO_9.out BK384.out (by decide)) e_) hs_)); have n3_ := Aside0.mk (hb); clear HO_6; clear HO_9; clear BK384; clear HB; have HO_6 := n0_; have HO_9 := n1_; have BK384 := n2_; have HB := n3_; clear n0_ n1_ n2_ n3_; (try clear hb); (try clear hkp); (try clear hy0)) | ((with_reducible refine gate_callee (f := 25) rfl ?_); refine goesL_ (some 73) rfl rfl Try.func25 (by kernel_rfl) rfl #[.slice Ao81 t417.length co81, .int .i64 1] rfl (by (try simp only [List.map_toArray, List.map_cons, List.map_nil]); first | done | (rw [show t417.length = t404.length from (Kd.R_reads' HO_9.out).1.symm] <;> rfl) | rfl | (simp only [List.length_drop, List.length_take]; rfl)) ?_; (with_reducible refine (laws_heldEventS.calls kj36 _ _ t417 1 t418 _ ?side1 ?side2 A53.out).mono ?_); (case side1 => repeat (first | exact (Kd.R_reads' HO_9.out).2.2 | (with_reducible refine Kd.C_alloc ?_ _) | (with_reducible refine Kd.C_drewN ?_ _) | (with_reducible refine Kd.C_drew ?_))); (case side2 => rw [show t417.length = t404.length from (Kd.R_reads' HO_9.out).1.symm]; exact (Kd.R_reads' HO_9.out).2.1); rintro e w' ⟨rfl, ⟨nd, rfl⟩⟩; refine ⟨_, rfl, ?_⟩))
                      go_ret
                      exact ⟨by first | rfl | (simp [errW_none, errW_some] <;> rfl) | (simp [*, errW_none, errW_some] <;> rfl), by repeat (first | (with_reducible first | exact HB.out | apply below_alloc | apply pw_below_drewN | apply below_drew1 | refine below_set ?_ GE384.out) | exact HB.out)⟩
          · replace c35 := Bool.eq_false_iff.mpr c35
            subst c35
            have H1 : (some false) = some r := by rw [if_neg (show ¬ (false = true) by decide)] at H; exact H
            clear H
            have H := H1
            clear H1
            obtain rfl := Option.some.inj H
            go_wp2_with (first | ((with_reducible refine gate_callee (f := 17) rfl ?_); refine goesL_ (some 49) rfl rfl Try.func17 (by kernel_rfl) rfl #[.slice A0 l0.length c0] rfl (by (try simp only [List.map_toArray, List.map_cons, List.map_nil]); first | done | rfl | (simp only [List.length_drop, List.length_take]; rfl)) ?_; (with_reducible refine (laws_toEventS.calls kj11 _ _ l0 t409 _ ?side1 ?side2 A33.out).mono ?_); (case side1 => repeat (first | exact (Kd.C_below HR0.out HB.out) | (with_reducible refine Kd.C_alloc ?_ _) | (with_reducible refine Kd.C_drewN ?_ _) | (with_reducible refine Kd.C_drew ?_))); (case side2 => exact HC0.out); rintro e w83 ⟨v410, rfl, ho0, hb⟩; refine ⟨_, rfl, ?_⟩; have n0_ := Aside0.mk (Kd.R_elder' (by (with_reducible repeat (first | apply Kd.R_alloc | apply Kd.R_drewN | apply Kd.R_drew)); exact HO_6.out) (Kd.R_base ho0) hb); have n1_ := Aside0.mk (Kd.R_elder' (by (with_reducible repeat (first | apply Kd.R_alloc | apply Kd.R_drewN | apply Kd.R_drew)); exact HO_8.out) (Kd.R_base ho0) hb); have n2_ := Aside0.mk (Kd.R_elder' (by (with_reducible repeat (first | apply Kd.R_alloc | apply Kd.R_drewN | apply Kd.R_drew)); exact HO_9.out) (Kd.R_base ho0) hb); have n3_ := Aside0.mk (Kd.R_lower (Kd.R_new' (Kd.R_new' (Kd.R_new' ho0 (Kd.R_lt (by (with_reducible repeat (first | apply Kd.R_alloc | apply Kd.R_drewN | apply Kd.R_drew)); exact HO_6.out))) (Kd.R_lt (by (with_reducible repeat (first | apply Kd.R_alloc | apply Kd.R_drewN | apply Kd.R_drew)); exact HO_8.out))) (Kd.R_lt (by (with_reducible repeat (first | apply Kd.R_alloc | apply Kd.R_drewN | apply Kd.R_drew)); exact HO_9.out))) (below_size (by repeat (first | (with_reducible first | exact HB.out | apply below_alloc | apply pw_below_drewN | apply below_drew1 | refine below_set ?_ GE384.out) | exact HB.out)))); have n4_ := Aside0.mk (blk_below (g := gb384) (o := .cells #[.int .i64 a1_0, .int .i64 a1_1, .int .i64 a1_2, .int .i64 a1_3] 34 (0, 0)) (by (with_reducible repeat (first | refine blk_drewN ?_ _ | refine blk_drew ?_ | refine blk_alloc ?_ _)); exact BK384.out) hb); have n5_ := Aside0.mk (below_step (by repeat (first | (with_reducible first | exact HB.out | apply below_alloc | apply pw_below_drewN | apply below_drew1 | refine below_set ?_ GE384.out) | exact HB.out)) hb); clear HO_6; clear HO_8; clear HO_9; clear BK384; clear HB; have HO_6 := n0_; have HO_8 := n1_; have HO_9 := n2_; have HO411 := n3_; have BK384 := n4_; have HB := n5_; clear n0_ n1_ n2_ n3_ n4_ n5_; (try clear hb); (try clear hb2); (try clear hk); (try clear hi); (try clear ho0); obtain ⟨Ao84, co84, eo84⟩ := Kd.R_slice HO411.out; subst eo84) | ((with_reducible refine gate_callee (f := 19) rfl ?_); refine goesL_ (some 50) rfl rfl Try.func19 (by kernel_rfl) rfl #[.slice Ao22 t397.length co22, .slice Ao84 t409.length co84] rfl (by (try simp only [List.map_toArray, List.map_cons, List.map_nil]); first | done | rfl | (simp only [List.length_drop, List.length_take]; rfl)) ?_; (with_reducible refine (laws_eqEventS.calls kj11 _ _ t397 _ _ t409 false _ ?side1 ?side2 ?side3 ?side4 A34.out).mono ?_); (case side1 => repeat (first | exact (Kd.R_reads' HO_8.out).2.2 | (with_reducible refine Kd.C_alloc ?_ _) | (with_reducible refine Kd.C_drewN ?_ _) | (with_reducible refine Kd.C_drew ?_))); (case side2 => exact (Kd.R_reads' HO_8.out).2.1); (case side3 => repeat (first | exact (Kd.R_reads' HO411.out).2.2 | (with_reducible refine Kd.C_alloc ?_ _) | (with_reducible refine Kd.C_drewN ?_ _) | (with_reducible refine Kd.C_drew ?_))); (case side4 => exact (Kd.R_reads' HO411.out).2.1); rintro e w85 ⟨rfl, hb⟩; refine ⟨_, rfl, ?_⟩; have n0_ := Aside0.mk (Kd.R_below (by (with_reducible repeat (first | apply Kd.R_alloc | apply Kd.R_drewN | apply Kd.R_drew)); exact HO_6.out) hb); have n1_ := Aside0.mk (Kd.R_below (by (with_reducible repeat (first | apply Kd.R_alloc | apply Kd.R_drewN | apply Kd.R_drew)); exact HO_8.out) hb); have n2_ := Aside0.mk (Kd.R_below (by (with_reducible repeat (first | apply Kd.R_alloc | apply Kd.R_drewN | apply Kd.R_drew)); exact HO_9.out) hb); have n3_ := Aside0.mk (Kd.R_below (by (with_reducible repeat (first | apply Kd.R_alloc | apply Kd.R_drewN | apply Kd.R_drew)); exact HO411.out) hb); have n4_ := Aside0.mk (blk_below (g := gb384) (o := .cells #[.int .i64 a1_0, .int .i64 a1_1, .int .i64 a1_2, .int .i64 a1_3] 34 (0, 0)) (by (with_reducible repeat (first | refine blk_drewN ?_ _ | refine blk_drew ?_ | refine blk_alloc ?_ _)); exact BK384.out) hb); have n5_ := Aside0.mk (below_step (by repeat (first | (with_reducible first | exact HB.out | apply below_alloc | apply pw_below_drewN | apply below_drew1 | refine below_set ?_ GE384.out) | exact HB.out)) hb); clear HO_6; clear HO_8; clear HO_9; clear HO411; clear BK384; clear HB; have HO_6 := n0_; have HO_8 := n1_; have HO_9 := n2_; have HO411 := n3_; have BK384 := n4_; have HB := n5_; clear n0_ n1_ n2_ n3_ n4_ n5_; (try clear hb); (try clear hb2); (try clear hk); (try clear hi)))
            go_ret
            exact ⟨by first | rfl | (simp [errW_none, errW_some] <;> rfl) | (simp [*, errW_none, errW_some] <;> rfl), by repeat (first | (with_reducible first | exact HB.out | apply below_alloc | apply pw_below_drewN | apply below_drew1 | refine below_set ?_ GE384.out) | exact HB.out)⟩

end Go.Proofs.Ytmacgllblbeegaa.F

/- Arguments that are structs, or slices of structs, all of whose fields are ints or bools, read as Lean lists: what a row needs of its arguments. No condition. -/
namespace Go.Proofs.Ytmacgllblbeegaa.Opened
open Go.ChangeShapes Go.WideShapes Go.Deep Go.RowKit Go.Joins Go.Proofs.YtmacgllblbeegaaW.PrintWords
set_option linter.unusedVariables false

/-- An int of 64 bits. -/
def I64 (n : Int) : Prop := -9223372036854775808 ≤ n ∧ n ≤ 9223372036854775807

theorem i64_of {n : Int} (h : (Lit.int .i64 n).wf = true) : I64 n := bounds_i64 h

section
variable {H : Type} {enc : TypeId × Value → H} {P : Program} {w : World} {base : Nat} {spare : Nat → Bool} {held : Bool}

/-- The cells vs read as the fields fs say. -/
def Fits (enc : TypeId × Value → H) (P : Program) (w : World) (base : Nat) (spare : Nat → Bool) (held : Bool) (fs : Array Field) (vs : List Value) : Prop :=
  vs.length = fs.size ∧ ∀ (j : Nat) (f : Field) (v : Value), fs[j]? = some f → vs[j]? = some v → ∃ (n : Nat) (y : DataW H × List MemPlace), DataW.trod enc P w base spare held n f.type [v] = some y

/-- One field of a fitting row of cells, an int. -/
theorem Fits.int {fs : Array Field} {vs : List Value} (h : Fits enc P w base spare held fs vs) {j : Nat} {f : Field} (hf : fs[j]? = some f) (ht : P.underlying f.type = some (.int .i64)) : ∃ n, vs[j]? = some (.int .i64 n) ∧ I64 n := by
  have hj : j < vs.length := by rw [h.1]; exact (Array.getElem?_eq_some_iff.1 hf).1
  obtain ⟨m, y, hy⟩ := h.2 j f _ hf (List.getElem?_eq_getElem hj)
  obtain ⟨n, e, _, hw⟩ := DataW.trod_int ht hy
  simp only [List.cons.injEq, and_true] at e
  exact ⟨n, by rw [List.getElem?_eq_getElem hj, e], i64_of hw⟩

theorem Fits.bool {fs : Array Field} {vs : List Value} (h : Fits enc P w base spare held fs vs) {j : Nat} {f : Field} (hf : fs[j]? = some f) (ht : P.underlying f.type = some .bool) : ∃ b, vs[j]? = some (.bool b) := by
  have hj : j < vs.length := by rw [h.1]; exact (Array.getElem?_eq_some_iff.1 hf).1
  obtain ⟨m, y, hy⟩ := h.2 j f _ hf (List.getElem?_eq_getElem hj)
  obtain ⟨n, e, _⟩ := DataW.trod_bool ht hy
  simp only [List.cons.injEq, and_true] at e
  exact ⟨n, by rw [List.getElem?_eq_getElem hj, e]⟩

theorem list2 {α : Type} {l : List α} {a b : α} (hl : l.length = 2) (h0 : l[0]? = some a) (h1 : l[1]? = some b) : l = [a, b] := by
  match l, hl with
  | [x, y], _ => simp at h0 h1; rw [h0, h1]
theorem list3 {α : Type} {l : List α} {a b c : α} (hl : l.length = 3) (h0 : l[0]? = some a) (h1 : l[1]? = some b) (h2 : l[2]? = some c) : l = [a, b, c] := by
  match l, hl with
  | [x, y, z], _ => simp at h0 h1 h2; rw [h0, h1, h2]
theorem list4 {α : Type} {l : List α} {a b c d : α} (hl : l.length = 4) (h0 : l[0]? = some a) (h1 : l[1]? = some b) (h2 : l[2]? = some c) (h3 : l[3]? = some d) : l = [a, b, c, d] := by
  match l, hl with
  | [x, y, z, u], _ => simp at h0 h1 h2 h3; rw [h0, h1, h2, h3]

/-- For each place below n an element with what is asked of it: a list of n such elements. -/
theorem list_of {α : Type} (Q : Nat → α → Prop) : ∀ n : Nat, (∀ i, i < n → ∃ x, Q i x) → ∃ l : List α, l.length = n ∧ ∀ (j : Nat) (p : α), l[j]? = some p → Q j p
  | 0, _ => ⟨[], rfl, fun j p h => by simp at h⟩
  | n + 1, h => by
    obtain ⟨l, hl, hq⟩ := list_of Q n (fun i hi => h i (by omega))
    obtain ⟨x, hx⟩ := h n (by omega)
    refine ⟨l ++ [x], by simp [hl], fun j p hj => ?_⟩
    rcases Nat.lt_or_ge j n with hn | hn
    · rw [List.getElem?_append_left (by omega)] at hj
      exact hq j p hj
    · have hj' : j = n := by
        have := (List.getElem?_eq_some_iff.1 hj).1
        rw [List.length_append, List.length_singleton] at this
        omega
      subst hj'
      have : x = p := by
        rw [List.getElem?_append_right (by omega), hl] at hj
        simpa using hj
      rw [← this]
      exact hx

/-- An argument that is a slice of structs of one-cell fields: it reads as a list of the print's kind d. -/
theorem open_rows {α : Type} (d : Kd α) (Good : α → Prop) {t e : TypeId} {fs : Array Field} {a : Option Addr} {len cap : Nat} {dd : DataW H} {ps : List MemPlace}
    (ht : P.underlying t = some (.slice e)) (he : P.underlying e = some (.struct fs)) (hone : oneCellFields P fs = true) (hC : P.cellsOf e = fs.size) (hsz : d.sz = fs.size)
    (hk : ∀ vs, Fits enc P w base spare held fs vs → ∃ x, Good x ∧ d.K w x vs)
    (h : DataW.Trod enc P w base spare held t (.slice a len cap) dd ps) : ∃ l : List α, l.length = len ∧ len ≤ cap ∧ d.C w a len l ∧ ∀ x ∈ l, Good x := by
  obtain ⟨fuel, hf⟩ := h
  rcases open_slice ht hf with ⟨hcs, _⟩ | ⟨x, l, c, m, n, D, Pl, hcs, _, hl, hm, hmm, hx, hi⟩
  · simp [Value.cells] at hcs
    obtain ⟨rfl, rfl, rfl⟩ := hcs
    exact ⟨[], rfl, Nat.le_refl _, Kd.C_nil d w, by simp⟩
  · simp [Value.cells] at hcs
    obtain ⟨rfl, rfl, rfl⟩ := hcs
    have hlm : len ≤ m := by rw [hmm]; split <;> omega
    obtain ⟨l, hll, hq⟩ := list_of (fun i (y : α) => Good y ∧ ∃ c : List Value, c.length = d.sz ∧ d.K w y c ∧ ∀ j u, c[j]? = some u → w.cell? (x.add (i * d.sz + j)) = some u) len (by
      intro i hil
      obtain ⟨cs', hc, ht'⟩ := hi i (by omega)
      rw [hC] at hc
      obtain ⟨ys, n', hn', hy, hlen, hyl, hfld⟩ := DataW.trod_struct he ht'
      obtain ⟨_, hcl, hat⟩ := World.cells?_some hc
      have hlen' : cs'.length = fs.size := hcl
      obtain ⟨y, hg, hK⟩ := hk cs' ⟨hlen', fun j f v hj hv => by
        obtain ⟨ho, hkk⟩ := hone_of hone j f hj
        have hjl : j < fs.size := (Array.getElem?_eq_some_iff.1 hj).1
        have h1 := hfld j f hj
        rw [ho, hkk] at h1
        have hone' : (cs'.drop j).take 1 = [v] := by
          rw [List.drop_eq_getElem_cons (by omega)]
          have : cs'[j]'(by omega) = v := by
            rw [List.getElem?_eq_getElem (by omega)] at hv
            exact Option.some.inj hv
          rw [this]
          rfl
        rw [hone'] at h1
        exact ⟨_, _, h1.trans (List.getElem?_eq_getElem (by omega))⟩⟩
      refine ⟨y, hg, cs', by rw [hlen', hsz], hK, fun j u hu => ?_⟩
      have hjl : j < fs.size := by
        have := (List.getElem?_eq_some_iff.1 hu).1
        omega
      have hcell := hat j hjl
      rw [hsz, ← Go.Deep.add_add, hcell]
      exact hu)
    refine ⟨l, hll, hl, ⟨hll, ?_, fun _ => ⟨x, rfl, fun j p hj => (hq j p hj).2⟩⟩, fun y hy => ?_⟩
    · unfold maxLen at hm
      omega
    · obtain ⟨j, hj⟩ := List.getElem?_of_mem hy
      exact (hq j y hj).1

/-- An argument that is a slice of whole numbers. -/
theorem open_nums {k : IntKind} {t e : TypeId} {a : Option Addr} {len cap : Nat} {dd : DataW H} {ps : List MemPlace} (ht : P.underlying t = some (.slice e)) (he : P.underlying e = some (.int k)) (hC : P.cellsOf e = 1)
    (h : DataW.Trod enc P w base spare held t (.slice a len cap) dd ps) : ∃ l : List Int, l.length = len ∧ len ≤ cap ∧ (Kd.int k).C w a len l ∧ ∀ x ∈ l, (Lit.int k x).wf = true := by
  obtain ⟨fuel, hf⟩ := h
  rcases open_ints ht he hC hf with ⟨hcs, _⟩ | ⟨x, l, c, zs, hcs, _, hl, hm, hz, _, hcell, hwz⟩
  · simp [Value.cells] at hcs
    obtain ⟨rfl, rfl, rfl⟩ := hcs
    exact ⟨[], rfl, Nat.le_refl _, Kd.C_nil _ w, by simp⟩
  · simp [Value.cells] at hcs
    obtain ⟨rfl, rfl, rfl⟩ := hcs
    have hlz : len ≤ zs.length := by rw [hz]; split <;> omega
    refine ⟨zs.take len, by simp [hlz], hl, ⟨by simp [hlz], by unfold maxLen at hm; omega, fun _ => ⟨x, rfl, fun j p hj => ⟨[.int k p], rfl, rfl, fun i u hu => ?_⟩⟩⟩, fun y hy => hwz y (List.mem_of_mem_take hy)⟩
    have hjl := (List.getElem?_eq_some_iff.1 hj).1
    rw [List.length_take] at hjl
    have hi : i = 0 := by
      have := (List.getElem?_eq_some_iff.1 hu).1
      simp at this
      omega
    subst hi
    have hu' : Value.int k p = u := by simpa using hu
    rw [← hu', show (Kd.int k).sz = 1 from rfl, Nat.mul_one, Nat.add_zero, hcell j (by omega)]
    rw [List.getElem?_take_of_lt (by omega)] at hj
    simp [hj]
end
end Go.Proofs.Ytmacgllblbeegaa.Opened

/- What the arguments of this seat's laws are read as, and the pure statement of each law. -/
namespace Go.Proofs.Ytmacgllblbeegaa.F
open Go.ChangeShapes Go.WideShapes Go.Deep Go.RowKit Go.Joins Go.Proofs.YtmacgllblbeegaaW.PrintWords Go.Proofs.Ytmacgllblbeegaa.Opened
set_option linter.unusedVariables false

def Good34 (x : S34) : Prop := I64 x.f0 ∧ I64 x.f1 ∧ I64 x.f2 ∧ I64 x.f3
theorem hk34 {H : Type} {enc : TypeId × Value → H} {w : World} {base : Nat} {spare : Nat → Bool} {held : Bool} {fs : Array Field} (hfs : Try.prog.underlying 34 = some (.struct fs)) (vs : List Value) (h : Fits enc Try.prog w base spare held fs vs) : ∃ x : S34, Good34 x ∧ k34.K w x vs := by
  rw [Try.underlying34] at hfs
  obtain rfl := TypeDesc.struct.inj (Option.some.inj hfs)
  obtain ⟨n0, e0, g0⟩ := h.int (j := 0) rfl Try.underlying3
  obtain ⟨n1, e1, g1⟩ := h.int (j := 1) rfl Try.underlying3
  obtain ⟨n2, e2, g2⟩ := h.int (j := 2) rfl Try.underlying3
  obtain ⟨n3, e3, g3⟩ := h.int (j := 3) rfl Try.underlying3
  obtain rfl := list4 (by rw [h.1]; rfl) e0 e1 e2 e3
  exact ⟨⟨n0, n1, n2, n3⟩, ⟨g0, g1, g2, g3⟩, k34_mk w ⟨n0, n1, n2, n3⟩⟩
def Good37 (x : S37) : Prop := I64 x.f0 ∧ I64 x.f1 ∧ I64 x.f2 ∧ I64 x.f3
theorem hk37 {H : Type} {enc : TypeId × Value → H} {w : World} {base : Nat} {spare : Nat → Bool} {held : Bool} {fs : Array Field} (hfs : Try.prog.underlying 37 = some (.struct fs)) (vs : List Value) (h : Fits enc Try.prog w base spare held fs vs) : ∃ x : S37, Good37 x ∧ k37.K w x vs := by
  rw [Try.underlying37] at hfs
  obtain rfl := TypeDesc.struct.inj (Option.some.inj hfs)
  obtain ⟨n0, e0, g0⟩ := h.int (j := 0) rfl Try.underlying3
  obtain ⟨n1, e1, g1⟩ := h.int (j := 1) rfl Try.underlying3
  obtain ⟨n2, e2, g2⟩ := h.int (j := 2) rfl Try.underlying3
  obtain ⟨n3, e3, g3⟩ := h.int (j := 3) rfl Try.underlying3
  obtain rfl := list4 (by rw [h.1]; rfl) e0 e1 e2 e3
  exact ⟨⟨n0, n1, n2, n3⟩, ⟨g0, g1, g2, g3⟩, k37_mk w ⟨n0, n1, n2, n3⟩⟩
end Go.Proofs.Ytmacgllblbeegaa.F

/- Small words on the printed functions: counting up, reading a list's element. -/
namespace Go.Proofs.Ytmacgllblbeegaa.F
open Go.RowKit Go.Proofs.Ytmacgllblbeegaa.Opened Go.Proofs.YtmacgllblbeegaaW.PrintWords Go.Proofs.YtmacgllblbeegaaW.PrintLast
set_option linter.unusedVariables false
set_option linter.unusedSimpArgs false

theorem w1 {n m : Nat} (h : n < m) (hm : m ≤ 9223372036854775807) : wrap64 ((n : Int) + 1) = ((n + 1 : Nat) : Int) := by unfold wrap64; omega
theorem w1i {i m : Int} (h0 : 0 ≤ i) (h : i < m) (hm : m ≤ 9223372036854775807) : wrap64 (i + 1) = i + 1 := by unfold wrap64; omega
theorem wid {x : Int} (h0 : -9223372036854775808 ≤ x) (h1 : x ≤ 9223372036854775807) : wrap64 x = x := by unfold wrap64; omega
theorem wI {x : Int} (h : I64 x) : wrap64 x = x := wid h.1 h.2
theorem bind_left {α β : Type} {a a' : Option α} (f : α → Option β) (h : a = a') : a.bind f = a'.bind f := by rw [h]
theorem take_next {α : Type} {l : List α} {n : Nat} (h : n < l.length) : l.take (n + 1) = l.take n ++ [l[n]] := by rw [List.take_succ_eq_append_getElem h]
theorem set_take {α : Type} (acc : List α) (n : Nat) (v : α) (h : n < acc.length) : (acc.set n v).take (n + 1) = acc.take n ++ [v] := by
  rw [List.take_succ_eq_append_getElem (by simpa using h), List.take_set, List.set_eq_of_length_le (by rw [List.length_take]; omega)]
  simp
theorem rd_nat (xs : List Int) (n : Nat) (h : n < xs.length) : rd xs (n : Int) = xs[n] := by simp [rd, h]
theorem rdT34 (xs : List S34) (n : Nat) (h : n < xs.length) : rd_T34 xs (n : Int) = xs[n] := by simp [rd_T34, h]
theorem rdT37 (xs : List S37) (n : Nat) (h : n < xs.length) : rd_T37 xs (n : Int) = xs[n] := by simp [rd_T37, h]

end Go.Proofs.Ytmacgllblbeegaa.F

-- Written for this claim by the kit's print.py out of the translation, called by wip/tools/fprint.py. Lean checks it.
namespace Go.Proofs.Ytmacgllblbeegaa.F
open Go.RowKit Go.Proofs.YtmacgllblbeegaaW.PrintWords Go.Proofs.YtmacgllblbeegaaW.PrintLast Go.Proofs.YtmacgllblbeegaaW.PrintMore
attribute [local go_sem] max2_int min2_int max_two min_two max_three min_three max_four min_four   -- for this text's walks alone
set_option linter.unusedVariables false
set_option linter.unusedSimpArgs false

/-! ### spec_Max: function 51 -/
def spec_Max.f (a0 : Int) (a1 : Int) : Option (Int) := if a1 > a0 then (some a1) else (some a0)
set_option maxHeartbeats 8000000 in
set_option maxRecDepth 100000 in
theorem spec_Max.calls (a0 : Int) (a1 : Int) (r : Int) (w : World) (h : spec_Max.f a0 a1 = some r) :
    Calls Try.prog 51 #[.int .i64 a0, .int .i64 a1] w fun e w' => e = .returned (.int .i64 r) ∧ Drawn0 w w' := by
  have H : (if a1 > a0 then (some a1) else (some a0)) = some r := h
  clear h
  by_cases c3 : a1 > a0
  · rw [if_pos c3] at H
    have c3b0 : decide (a0 < a1) = true := decide_eq_true c3
    clear c3
    obtain rfl := Option.some.inj H
    go_enter Try.func51, Try.ntmps51
    go_wp2
    go_ret
    exact ⟨by first | rfl | (simp; done) | (simp [*]; done), by repeat (first | exact Drawn0.refl _ | apply Drawn0.step)⟩
  · rw [if_neg c3] at H
    have c3b0 : decide (a0 < a1) = false := decide_eq_false c3
    clear c3
    obtain rfl := Option.some.inj H
    go_enter Try.func51, Try.ntmps51
    go_wp2
    go_ret
    exact ⟨by first | rfl | (simp; done) | (simp [*]; done), by repeat (first | exact Drawn0.refl _ | apply Drawn0.step)⟩

end Go.Proofs.Ytmacgllblbeegaa.F

-- Written for this claim by the kit's print.py out of the translation, called by wip/tools/fprint.py. Lean checks it.
namespace Go.Proofs.Ytmacgllblbeegaa.F
open Go.RowKit Go.Proofs.YtmacgllblbeegaaW.PrintWords Go.Proofs.YtmacgllblbeegaaW.PrintLast Go.Proofs.YtmacgllblbeegaaW.PrintMore
attribute [local go_sem] max2_int min2_int max_two min_two max_three min_three max_four min_four   -- for this text's walks alone
set_option linter.unusedVariables false
set_option linter.unusedSimpArgs false

/-! ### spec_Min: function 61 -/
def spec_Min.f (a0 : Int) (a1 : Int) : Option (Int) := if a1 < a0 then (some a1) else (some a0)
set_option maxHeartbeats 8000000 in
set_option maxRecDepth 100000 in
theorem spec_Min.calls (a0 : Int) (a1 : Int) (r : Int) (w : World) (h : spec_Min.f a0 a1 = some r) :
    Calls Try.prog 61 #[.int .i64 a0, .int .i64 a1] w fun e w' => e = .returned (.int .i64 r) ∧ Drawn0 w w' := by
  have H : (if a1 < a0 then (some a1) else (some a0)) = some r := h
  clear h
  by_cases c3 : a1 < a0
  · rw [if_pos c3] at H
    have c3b0 : decide (a1 < a0) = true := decide_eq_true c3
    clear c3
    obtain rfl := Option.some.inj H
    go_enter Try.func61, Try.ntmps61
    go_wp2
    go_ret
    exact ⟨by first | rfl | (simp; done) | (simp [*]; done), by repeat (first | exact Drawn0.refl _ | apply Drawn0.step)⟩
  · rw [if_neg c3] at H
    have c3b0 : decide (a1 < a0) = false := decide_eq_false c3
    clear c3
    obtain rfl := Option.some.inj H
    go_enter Try.func61, Try.ntmps61
    go_wp2
    go_ret
    exact ⟨by first | rfl | (simp; done) | (simp [*]; done), by repeat (first | exact Drawn0.refl _ | apply Drawn0.step)⟩

end Go.Proofs.Ytmacgllblbeegaa.F

/- Ranges, minima, maxima, remainders: what the small functions on numbers come to. -/
namespace Go.Proofs.Ytmacgllblbeegaa.F
open Go.RowKit Go.Proofs.Ytmacgllblbeegaa.Opened Go.Proofs.YtmacgllblbeegaaW.PrintWords Go.Proofs.YtmacgllblbeegaaW.PrintLast Go.Proofs.YtmacgllblbeegaaW.PrintMore
set_option linter.unusedVariables false
set_option linter.unusedSimpArgs false
theorem spec_l1In.ok (a b c : Int) : spec_l1In.f a b c = some (decide (b ≤ a ∧ a ≤ c)) := by
  unfold spec_l1In.f
  by_cases h : b ≤ a <;> simp [h]
theorem impl_InRange.ok (a b c : Int) : impl_InRange.f a b c = some (decide (b ≤ a ∧ a ≤ c)) := by
  unfold impl_InRange.f
  by_cases h : b ≤ a <;> simp [h]
theorem spec_Max.ok (a b : Int) : spec_Max.f a b = some (mx a b) := by
  unfold spec_Max.f mx
  by_cases h : a < b <;> simp [h]
theorem spec_Min.ok (a b : Int) : spec_Min.f a b = some (mn a b) := by
  unfold spec_Min.f mn
  by_cases h : b < a <;> simp [h]
end Go.Proofs.Ytmacgllblbeegaa.F

/- Scores: what the tests of events and of scores come to. -/
namespace Go.Proofs.Ytmacgllblbeegaa.F
open Go.RowKit Go.Proofs.Ytmacgllblbeegaa.Opened Go.Proofs.YtmacgllblbeegaaW.PrintWords Go.Proofs.YtmacgllblbeegaaW.PrintLast Go.Proofs.YtmacgllblbeegaaW.PrintMore
set_option linter.unusedVariables false
set_option linter.unusedSimpArgs false

abbrev Evt := S37
/-- An event whose numbers are in range. -/
def okE (e : Evt) : Prop := (0 ≤ e.f0 ∧ e.f0 ≤ 2000) ∧ (1 ≤ e.f1 ∧ e.f1 ≤ 96) ∧ (21 ≤ e.f2 ∧ e.f2 ≤ 108) ∧ (1 ≤ e.f3 ∧ e.f3 ≤ 4)
instance (e : Evt) : Decidable (okE e) := by unfold okE; infer_instance
/-- Events in order: by time, then voice, then pitch. -/
def before (a b : Evt) : Prop := a.f0 < b.f0 ∨ (a.f0 = b.f0 ∧ (a.f3 < b.f3 ∨ (a.f3 = b.f3 ∧ a.f2 < b.f2)))
instance (a b : Evt) : Decidable (before a b) := by unfold before; infer_instance
theorem before_trans {a b c : Evt} (h : before a b) (h' : before b c) : before a c := by unfold before at *; omega
theorem before_irrefl (a : Evt) : ¬ before a a := by unfold before; omega
theorem before_asymm {a b : Evt} (h : before a b) : ¬ before b a := by unfold before at *; omega
theorem spec_l8Ok.ok (e : Evt) : spec_l8Ok.f e.f0 e.f1 e.f2 e.f3 = some (decide (okE e)) := by
  unfold spec_l8Ok.f okE
  simp only [spec_l1In.ok, Option.bind_some]
  by_cases h1 : 0 ≤ e.f0 ∧ e.f0 ≤ 2000 <;> by_cases h2 : 1 ≤ e.f1 ∧ e.f1 ≤ 96 <;> by_cases h3 : 21 ≤ e.f2 ∧ e.f2 ≤ 108 <;> by_cases h4 : 1 ≤ e.f3 ∧ e.f3 ≤ 4 <;> simp [h1, h2, h3, h4]
theorem spec_l8Before.ok (a b : Evt) : spec_l8Before.f a.f0 a.f1 a.f2 a.f3 b.f0 b.f1 b.f2 b.f3 = some (decide (before a b)) := by
  unfold spec_l8Before.f before
  by_cases h1 : a.f0 = b.f0
  · by_cases h2 : a.f3 = b.f3 <;> simp [h1, h2]
  · simp [h1]
def cmpI (a b : Int) : Int := if a < b then -1 else if b < a then 1 else 0
theorem cmp_Compare_int.ok (a b : Int) : cmp_Compare_int.f a b = some (cmpI a b) := by
  unfold cmp_Compare_int.f cmp_isNaN_int.f cmpI
  by_cases h1 : a < b
  · simp [h1]
  · by_cases h2 : b < a <;> simp [h1, h2]
theorem cmp_Or_int.ok3 (x y z : Int) (k : Nat) (hk : 4 ≤ k) : cmp_Or_int.f k [x, y, z] = some (if x = 0 then (if y = 0 then z else y) else x) := by
  obtain ⟨k, rfl⟩ : ∃ m, k = m + 4 := ⟨k - 4, by omega⟩
  have e1 : wrap64 (1 : Int) = 1 := by unfold wrap64; omega
  have e2 : wrap64 (2 : Int) = 2 := by unfold wrap64; omega
  have e3 : wrap64 (3 : Int) = 3 := by unfold wrap64; omega
  by_cases h1 : x = 0
  · by_cases h2 : y = 0
    · by_cases h3 : z = 0 <;> simp [cmp_Or_int.f, cmp_Or_int.l0, rd, h1, h2, h3, e1, e2, e3]
    · simp [cmp_Or_int.f, cmp_Or_int.l0, rd, h1, h2, e1, e2, e3]
  · simp [cmp_Or_int.f, cmp_Or_int.l0, rd, h1, e1, e2, e3]
/-- How two events compare. -/
def ordE (a b : Evt) : Int := if cmpI a.f0 b.f0 = 0 then (if cmpI a.f3 b.f3 = 0 then cmpI a.f2 b.f2 else cmpI a.f3 b.f3) else cmpI a.f0 b.f0
theorem impl_eventOrder.ok (a b : Evt) (k : Nat) (hk : 4 ≤ k) : impl_eventOrder.f k a.f0 a.f1 a.f2 a.f3 b.f0 b.f1 b.f2 b.f3 = some (ordE a b) := by
  unfold impl_eventOrder.f
  simp only [cmp_Compare_int.ok, Option.bind_some, cmp_Or_int.ok3 _ _ _ k hk]
  rfl
theorem ordE_lt (a b : Evt) : ordE a b < 0 ↔ before a b := by
  unfold ordE cmpI before
  constructor
  · intro h; repeat' split at h
    all_goals omega
  · intro h; repeat' split
    all_goals omega
theorem ordE_zero (a b : Evt) : ordE a b = 0 ↔ a.f0 = b.f0 ∧ a.f3 = b.f3 ∧ a.f2 = b.f2 := by
  unfold ordE cmpI
  constructor
  · intro h; repeat' split at h
    all_goals omega
  · intro h; repeat' split
    all_goals omega

/-- The events behind p stand in order and in range. -/
def scB : Option Evt → List Evt → Bool
  | _, [] => true
  | none, e :: l => decide (okE e) && scB (some e) l
  | some q, e :: l => decide (okE e) && (decide (before q e) && scB (some e) l)
/-- A valid score. -/
def isScoreB (l : List Evt) : Bool := scB none l && decide (l.length ≤ 40)
theorem scB_some (q : Evt) (l : List Evt) : scB (some q) l = true ↔ (∀ x ∈ l, okE x) ∧ l.Pairwise before ∧ ∀ x ∈ l, before q x := by
  induction l generalizing q with
  | nil => simp [scB]
  | cons e l ih =>
    simp only [scB, Bool.and_eq_true, decide_eq_true_eq, ih e, List.mem_cons, forall_eq_or_imp, List.pairwise_cons]
    constructor
    · rintro ⟨h1, h2, h3, h4, h5⟩
      exact ⟨⟨h1, h3⟩, ⟨h5, h4⟩, h2, fun x hx => before_trans h2 (h5 x hx)⟩
    · rintro ⟨⟨h1, h3⟩, ⟨h5, h4⟩, h2, h6⟩
      exact ⟨h1, h2, h3, h4, h5⟩
theorem scB_none (l : List Evt) : scB none l = true ↔ (∀ x ∈ l, okE x) ∧ l.Pairwise before := by
  cases l with
  | nil => simp [scB]
  | cons e l =>
    simp only [scB, Bool.and_eq_true, decide_eq_true_eq, scB_some, List.mem_cons, forall_eq_or_imp, List.pairwise_cons]
    constructor
    · rintro ⟨h1, h3, h4, h5⟩
      exact ⟨⟨h1, h3⟩, h5, h4⟩
    · rintro ⟨⟨h1, h3⟩, h5, h4⟩
      exact ⟨h1, h3, h4, h5⟩
theorem isScoreB_iff (l : List Evt) : isScoreB l = true ↔ (∀ x ∈ l, okE x) ∧ l.Pairwise before ∧ l.length ≤ 40 := by
  unfold isScoreB
  rw [Bool.and_eq_true, scB_none, decide_eq_true_eq, and_assoc]
def prevAt (l : List Evt) (n : Nat) : Option Evt := if n = 0 then none else l[n - 1]?
theorem prevAt_next (l : List Evt) (n : Nat) (h : n < l.length) : prevAt l (n + 1) = some l[n] := by simp [prevAt, h]
theorem prevAt_pos (l : List Evt) (n : Nat) (h0 : n ≠ 0) (h : n - 1 < l.length) : prevAt l n = some l[n - 1] := by simp [prevAt, h0, h]
theorem spec_IsScore.loop (l : List Evt) (hm : l.length ≤ 9223372036854775807) : ∀ (d k n : Nat), l.length - n ≤ d → d < k → spec_IsScore.l0 k l (n : Int) = some (scB (prevAt l n) (l.drop n) && decide (l.length ≤ 40)) := by
  intro d
  induction d with
  | zero =>
    intro k n hd hk
    obtain ⟨k, rfl⟩ : ∃ m, k = m + 1 := ⟨k - 1, by omega⟩
    simp only [spec_IsScore.l0]
    rw [if_neg (by omega), List.drop_of_length_le (by omega)]
    have e : ((l.length : Int) ≤ 40) ↔ l.length ≤ 40 := by omega
    simp [scB, e]
  | succ d ih =>
    intro k n hd hk
    obtain ⟨k, rfl⟩ : ∃ m, k = m + 1 := ⟨k - 1, by omega⟩
    by_cases h : n < l.length
    · simp only [spec_IsScore.l0]
      rw [if_pos (by omega), if_pos (by omega), rdT37 l n h, spec_l8Ok.ok, w1 h hm, List.drop_eq_getElem_cons h]
      simp only [Option.bind_some]
      have ih' := ih k (n + 1) (by omega) (by omega)
      rw [prevAt_next l n h] at ih'
      by_cases c1 : okE l[n]
      · by_cases c2 : n = 0
        · subst c2
          rw [if_pos (by simpa using c1), if_neg (by omega), ih']
          simp [prevAt, scB, c1]
        · have e : wrap64 ((n : Int) - 1) = ((n - 1 : Nat) : Int) := by unfold wrap64; omega
          rw [if_pos (by simpa using c1), if_pos (by omega), e, if_pos (by omega), if_pos (by omega), rdT37 l (n - 1) (by omega), spec_l8Before.ok]
          simp only [Option.bind_some]
          rw [ih', prevAt_pos l n c2 (by omega)]
          by_cases c3 : before l[n - 1] l[n]
          · simp [scB, c1, c3]
          · simp [scB, c3]
      · rw [if_neg (by simpa using c1)]
        cases prevAt l n <;> simp [scB, c1]
    · simp only [spec_IsScore.l0]
      rw [if_neg (by omega), List.drop_of_length_le (by omega)]
      have e : ((l.length : Int) ≤ 40) ↔ l.length ≤ 40 := by omega
      simp [scB, e]
theorem spec_IsScore.ok (l : List Evt) (hm : l.length ≤ 9223372036854775807) (k : Nat) (hk : l.length < k) : spec_IsScore.f k l = some (isScoreB l) := by
  unfold spec_IsScore.f
  exact spec_IsScore.loop l hm l.length k 0 (by omega) hk
theorem impl_IsScore.loop (l : List Evt) (hm : l.length ≤ 9223372036854775807) : ∀ (d k n : Nat), l.length - n ≤ d → d + 4 < k → impl_IsScore.l0 k l l l.length (n : Int) = some (scB (prevAt l n) (l.drop n) && decide (l.length ≤ 40)) := by
  intro d
  induction d with
  | zero =>
    intro k n hd hk
    obtain ⟨k, rfl⟩ : ∃ m, k = m + 1 := ⟨k - 1, by omega⟩
    simp only [impl_IsScore.l0]
    rw [if_neg (by omega), List.drop_of_length_le (by omega)]
    have e : ((l.length : Int) ≤ 40) ↔ l.length ≤ 40 := by omega
    simp [scB, e]
  | succ d ih =>
    intro k n hd hk
    obtain ⟨k, rfl⟩ : ∃ m, k = m + 1 := ⟨k - 1, by omega⟩
    by_cases h : n < l.length
    · simp only [impl_IsScore.l0, impl_InRange.ok]
      rw [if_pos (by omega), if_pos (by omega), if_pos (by omega), rdT37 l n h, w1 h hm, List.drop_eq_getElem_cons h]
      simp only [Option.bind_some]
      have ih' := ih k (n + 1) (by omega) (by omega)
      rw [prevAt_next l n h] at ih'
      by_cases c1 : okE l[n]
      · obtain ⟨o1, o2, o3, o4⟩ := id c1
        rw [if_pos (by simpa using o1), if_pos (by simpa using o2), if_pos (by simpa using o3), if_pos (by simpa using o4)]
        by_cases c2 : n = 0
        · subst c2
          rw [if_neg (by omega), ih']
          simp [prevAt, scB, c1]
        · have e : wrap64 ((n : Int) - 1) = ((n - 1 : Nat) : Int) := by unfold wrap64; omega
          rw [if_pos (by omega), e, if_pos (by omega), if_pos (by omega), rdT37 l (n - 1) (by omega), impl_eventOrder.ok _ _ k (by omega)]
          simp only [Option.bind_some]
          rw [ih', prevAt_pos l n c2 (by omega)]
          by_cases c3 : before l[n - 1] l[n]
          · have := (ordE_lt l[n - 1] l[n]).2 c3
            rw [if_neg (by omega)]
            simp [scB, c1, c3]
          · have := mt (ordE_lt l[n - 1] l[n]).1 c3
            rw [if_pos (by omega)]
            simp [scB, c3]
      · have c1' := c1
        unfold okE at c1
        have R : scB (prevAt l n) (l[n] :: l.drop (n + 1)) = false := by cases prevAt l n <;> simp [scB, c1']
        rw [R, Bool.false_and]
        by_cases h1 : 0 ≤ l[n].f0 ∧ l[n].f0 ≤ 2000
        · by_cases h2 : 1 ≤ l[n].f1 ∧ l[n].f1 ≤ 96
          · by_cases h3 : 21 ≤ l[n].f2 ∧ l[n].f2 ≤ 108
            · by_cases h4 : 1 ≤ l[n].f3 ∧ l[n].f3 ≤ 4
              · exact absurd ⟨h1, h2, h3, h4⟩ c1
              · rw [if_pos (by simpa using h1), if_pos (by simpa using h2), if_pos (by simpa using h3), if_neg (by simpa using h4)]
            · rw [if_pos (by simpa using h1), if_pos (by simpa using h2), if_neg (by simpa using h3)]
          · rw [if_pos (by simpa using h1), if_neg (by simpa using h2)]
        · rw [if_neg (by simpa using h1)]
    · simp only [impl_IsScore.l0]
      rw [if_neg (by omega), List.drop_of_length_le (by omega)]
      have e : ((l.length : Int) ≤ 40) ↔ l.length ≤ 40 := by omega
      simp [scB, e]
theorem impl_IsScore.ok (l : List Evt) (hm : l.length ≤ 9223372036854775807) (k : Nat) (hk : l.length + 4 < k) : impl_IsScore.f k l = some (isScoreB l) := by
  unfold impl_IsScore.f
  exact impl_IsScore.loop l hm l.length k 0 (by omega) hk
end Go.Proofs.Ytmacgllblbeegaa.F

/- An event put into a score. -/
namespace Go.Proofs.Ytmacgllblbeegaa.F
open Go.RowKit Go.Proofs.Ytmacgllblbeegaa.Opened Go.Proofs.YtmacgllblbeegaaW.PrintWords Go.Proofs.YtmacgllblbeegaaW.PrintLast Go.Proofs.YtmacgllblbeegaaW.PrintMore
set_option linter.unusedVariables false
set_option linter.unusedSimpArgs false

/-- An event put into a list, behind all that stand before it. -/
def insE (e : Evt) : List Evt → List Evt
  | [] => [e]
  | x :: l => if before x e then x :: insE e l else e :: x :: l
theorem insE_length (e : Evt) : ∀ l : List Evt, (insE e l).length = l.length + 1
  | [] => rfl
  | x :: l => by
    unfold insE
    split
    · simp only [List.length_cons, insE_length e l]
    · rfl
/-- An event put into a score: what comes back. -/
def putSc (l : List Evt) (e : Evt) : List Evt × Bool := if isScoreB (insE e l) = true then (insE e l, true) else (l, false)
theorem putSc_length (l : List Evt) (e : Evt) : (putSc l e).1.length ≤ l.length + 1 := by
  unfold putSc
  split
  · rw [insE_length]; exact Nat.le_refl _
  · exact Nat.le_succ _
theorem putSc_score {l : List Evt} (h : isScoreB l = true) (e : Evt) : isScoreB (putSc l e).1 = true := by
  unfold putSc
  split
  · rename_i h'; exact h'
  · exact h
theorem putSc_len (l : List Evt) (e : Evt) (h : l.length ≤ 1048576) : (putSc l e).1.length ≤ 1048576 ∧ (putSc l e).1.length ≤ l.length + 40 := by
  unfold putSc
  split
  · rename_i hs
    have := ((isScoreB_iff _).1 hs).2.2
    exact ⟨by simp only; omega, by simp only; omega⟩
  · exact ⟨h, by simp only; omega⟩
theorem ordV_ok (x e : Evt) : ordV x e = some (ordE x e) := impl_eventOrder.ok x e 4 (Nat.le_refl _)
theorem notB_iff (e x : Evt) : notB e x = !decide (before x e) := by
  unfold notB
  rw [ordV_ok, Option.getD_some]
  by_cases h : before x e
  · have := (ordE_lt x e).2 h
    rw [decide_eq_true h, decide_eq_false (by omega)]
    rfl
  · have : ¬ ordE x e < 0 := fun hh => h ((ordE_lt x e).1 hh)
    rw [decide_eq_false h, decide_eq_true (by omega)]
    rfl
theorem insE_find (e : Evt) : ∀ l : List Evt, l.take (l.findIdx (notB e)) ++ [e] ++ l.drop (l.findIdx (notB e)) = insE e l
  | [] => rfl
  | x :: t => by
    rw [List.findIdx_cons, notB_iff]
    by_cases h : before x e
    · rw [decide_eq_true h]
      simp only [Bool.not_true, cond_false, List.take_succ_cons, List.drop_succ_cons, List.cons_append]
      rw [insE_find e t, insE, if_pos h]
    · rw [decide_eq_false h]
      simp only [Bool.not_false, cond_true, List.take_zero, List.drop_zero, List.nil_append, List.singleton_append]
      rw [insE, if_neg h]
theorem impl_PutEvent.ok (l : List Evt) (e : Evt) (hm : l.length ≤ 1048576) (k : Nat) (hk : l.length + 10 < k) : impl_PutEvent.f k l e.f0 e.f1 e.f2 e.f3 = some (putSc l e) := by
  have hl := insE_length e l
  have hi := insE_find e l
  unfold impl_PutEvent.f putSc
  rw [if_pos ⟨by omega, List.all_eq_true.2 (fun x _ => by rw [ordV_ok]; rfl)⟩]
  show ((impl_IsScore.f k (l.take (l.findIdx (notB e)) ++ [e] ++ l.drop (l.findIdx (notB e)))).bind fun s => (if s = true then (some (l.take (l.findIdx (notB e)) ++ [e] ++ l.drop (l.findIdx (notB e)), true)) else (some (l, false)))) = _
  rw [hi, impl_IsScore.ok _ (by omega) k (by omega)]
  simp only [Option.bind_some]
  split <;> rfl
theorem spec_l8Put.loop (e : Evt) (l : List Evt) (hm : l.length ≤ 2097152) : ∀ (d k n : Nat), l.length - n = d → n ≤ l.length → d < k → spec_l8Put.l0 k l (n : Int) e.f0 e.f1 e.f2 e.f3 = some (l.take n ++ insE e (l.drop n)) := by
  intro d
  induction d with
  | zero =>
    intro k n hd hn hk
    obtain ⟨k, rfl⟩ : ∃ m, k = m + 1 := ⟨k - 1, by omega⟩
    have hl : n = l.length := by omega
    subst hl
    have e3 : (l.take l.length).length = l.length := by simp
    have e4 : l.drop l.length = [] := by simp
    simp only [spec_l8Put.l0]
    rw [if_neg (by omega)]
    simp only [Option.bind_some, List.nil_append, List.length_nil, Int.toNat_natCast]
    rw [e4, if_pos (by omega), if_pos (by omega), if_pos (by omega)]
    rw [if_pos (by simp; omega), if_pos (by simp; omega)]
    simp [insE]
  | succ d ih =>
    intro k n hd hn hk
    obtain ⟨k, rfl⟩ : ∃ m, k = m + 1 := ⟨k - 1, by omega⟩
    have h : n < l.length := by omega
    have e4 : l.drop n = l[n] :: l.drop (n + 1) := List.drop_eq_getElem_cons h
    simp only [spec_l8Put.l0]
    rw [if_pos (by omega), if_pos (by omega), rdT37 l n h, spec_l8Before.ok]
    simp only [Option.bind_some, List.nil_append, List.length_nil, Int.toNat_natCast]
    by_cases c : before l[n] e
    · rw [if_pos (by simpa using c), w1 h (by omega), ih k (n + 1) (by omega) (by omega) (by omega), e4]
      simp only [insE, if_pos c]
      rw [List.take_succ_eq_append_getElem h, List.append_assoc]
      rfl
    · rw [if_neg (by simpa using c), if_pos (by omega), if_pos (by simp; omega), if_pos (by simp; omega), if_pos (by simp; omega), e4]
      simp only [insE, if_neg c]
      simp
theorem spec_l8Put.ok (e : Evt) (l : List Evt) (hm : l.length ≤ 2097152) (k : Nat) (hk : l.length < k) : spec_l8Put.f k l e.f0 e.f1 e.f2 e.f3 = some (insE e l) := by
  have := spec_l8Put.loop e l hm l.length k 0 (by omega) (by omega) hk
  unfold spec_l8Put.f
  simpa using this
theorem spec_PutEvent.ok (l : List Evt) (e : Evt) (hm : l.length ≤ 1048576) (k : Nat) (hk : l.length + 1 < k) : spec_PutEvent.f k l e.f0 e.f1 e.f2 e.f3 = some (putSc l e) := by
  unfold spec_PutEvent.f putSc
  have hl := insE_length e l
  rw [spec_l8Put.ok e l (by omega) k (by omega)]
  simp only [Option.bind_some]
  rw [spec_IsScore.ok _ (by omega) k (by omega)]
  simp only [Option.bind_some, List.nil_append, List.length_nil]
  rw [if_pos (show 0 + l.length < 4398046511104 by omega)]
  split <;> rfl
end Go.Proofs.Ytmacgllblbeegaa.F

/- What the law's own helpers on lists of Event come to. -/
namespace Go.Proofs.Ytmacgllblbeegaa.F
open Go.RowKit Go.Proofs.Ytmacgllblbeegaa.Opened Go.Proofs.YtmacgllblbeegaaW.PrintWords Go.Proofs.YtmacgllblbeegaaW.PrintLast
set_option linter.unusedVariables false
set_option linter.unusedSimpArgs false

def conv34 (x : S34) : S37 := ⟨x.f0, x.f1, x.f2, x.f3⟩
theorem laws_szEventS.ok (l : List S34) (a : Int) (h : l.length ≤ 9223372036854775807) (h0 : 0 ≤ a) (h1 : a ≤ 1048576) : laws_szEventS.f l a = some (if a - l.length < 0 then -1 else a - l.length) := by
  have e : wrap64 (a - (l.length : Int)) = a - l.length := by unfold wrap64; omega
  unfold laws_szEventS.f
  rw [e]
  split <;> rfl
theorem laws_toEventS.loop (x : List S34) (hm : x.length ≤ 1048576) : ∀ (d k : Nat) (acc : List S37) (n : Nat), n ≤ x.length → x.length - n = d → d < k → acc.length = x.length → acc.take n = (x.map conv34).take n → laws_toEventS.l0 k x acc (n : Int) = some (x.map conv34) := by
  intro d
  induction d with
  | zero =>
    intro k acc n hn hd hk hl ha
    obtain ⟨k, rfl⟩ : ∃ m, k = m + 1 := ⟨k - 1, by omega⟩
    simp only [laws_toEventS.l0]
    rw [if_neg (by omega)]
    have : n = x.length := by omega
    subst this
    rw [← hl, List.take_length, hl, ← List.length_map (f := conv34), List.take_length] at ha
    rw [ha]
  | succ d ih =>
    intro k acc n hn hd hk hl ha
    obtain ⟨k, rfl⟩ : ∃ m, k = m + 1 := ⟨k - 1, by omega⟩
    have hlt : n < x.length := by omega
    simp only [laws_toEventS.l0, laws_toEvent.f, Option.bind_some]
    rw [if_pos (by omega), if_pos (by omega), if_pos (by omega), w1 hlt (by omega), rdT34 x n hlt, Int.toNat_natCast]
    refine ih k _ (n + 1) (by omega) (by omega) (by omega) (by simpa using hl) ?_
    rw [set_take _ _ _ (by omega), ha, take_next (by simpa using hlt)]
    simp [conv34]
theorem laws_toEventS.ok (x : List S34) (hm : x.length ≤ 1048576) (k : Nat) (hk : x.length < k) : laws_toEventS.f k x = some (x.map conv34) := by
  unfold laws_toEventS.f
  rw [if_pos (by omega), if_pos (by omega), Int.toNat_natCast]
  exact laws_toEventS.loop x hm x.length k _ 0 (by omega) (by omega) hk (by simp) (by simp)
theorem laws_eqEvent.same (v0 : Int) (v1 : Int) (v2 : Int) (v3 : Int) : laws_eqEvent.f v0 v1 v2 v3 v0 v1 v2 v3 = some true := by simp [laws_eqEvent.f]
theorem laws_eqEventS.loop (x : List S37) (hm : x.length ≤ 9223372036854775807) : ∀ (d k : Nat) (n : Nat), n ≤ x.length → x.length - n = d → d < k → laws_eqEventS.l0 k x x (n : Int) = some true := by
  intro d
  induction d with
  | zero =>
    intro k n hn hd hk
    obtain ⟨k, rfl⟩ : ∃ m, k = m + 1 := ⟨k - 1, by omega⟩
    simp only [laws_eqEventS.l0]
    rw [if_neg (by omega)]
  | succ d ih =>
    intro k n hn hd hk
    obtain ⟨k, rfl⟩ : ∃ m, k = m + 1 := ⟨k - 1, by omega⟩
    have hlt : n < x.length := by omega
    simp only [laws_eqEventS.l0, laws_eqEvent.same, Option.bind_some]
    rw [if_pos (by omega), if_pos (by omega), w1 hlt hm]
    simp only [if_true]
    first
      | (rw [if_pos (by omega)]; exact ih k (n + 1) (by omega) (by omega) (by omega))
      | exact ih k (n + 1) (by omega) (by omega) (by omega)
theorem laws_eqEventS.ok (x : List S37) (hm : x.length ≤ 9223372036854775807) (k : Nat) (hk : x.length < k) : laws_eqEventS.f k x x = some true := by
  unfold laws_eqEventS.f
  rw [if_pos rfl]
  exact laws_eqEventS.loop x hm x.length k 0 (by omega) (by omega) hk

end Go.Proofs.Ytmacgllblbeegaa.F

/- Marking a list of Event, and looking whether the marks stand. -/
namespace Go.Proofs.Ytmacgllblbeegaa.F
open Go.RowKit Go.Proofs.Ytmacgllblbeegaa.Opened Go.Proofs.YtmacgllblbeegaaW.PrintWords Go.Proofs.YtmacgllblbeegaaW.PrintLast
set_option linter.unusedVariables false
set_option linter.unusedSimpArgs false

/-- m elements, numbered from c on. -/
def markedEvent : Nat → Int → List S37
  | 0, _ => []
  | m + 1, c => (⟨c, c + 1, c + 1 + 1, c + 1 + 1 + 1⟩ : S37) :: markedEvent m (c + 1 + 1 + 1 + 1)
theorem markedEvent_length (m : Nat) (c : Int) : (markedEvent m c).length = m := by
  induction m generalizing c with
  | zero => rfl
  | succ m ih => simp [markedEvent, ih]
theorem rdsetEvent (xs : List S37) (n : Nat) (v : S37) (h : n < xs.length) : rd_T37 (xs.set n v) (n : Int) = v := by
  rw [rdT37 _ n (by simpa using h)]
  simp
theorem laws_markEventS.loop : ∀ (d k : Nat) (x : List S37) (c : Int) (n : Nat), x.length ≤ 1048576 → n ≤ x.length → x.length - n = d → d < k → 0 ≤ c → c ≤ 1000000000000 - 4 * d → laws_markEventS.l0 k x c (n : Int) = some (c + 4 * d, x.take n ++ markedEvent d c) := by
  intro d
  induction d with
  | zero =>
    intro k x c n hm hn hd hk h0 h1
    obtain ⟨k, rfl⟩ : ∃ m, k = m + 1 := ⟨k - 1, by omega⟩
    simp only [laws_markEventS.l0]
    rw [if_neg (by omega), List.take_of_length_le (by omega)]
    simp [markedEvent]
  | succ d ih =>
    intro k x c n hm hn hd hk h0 h1
    obtain ⟨k, rfl⟩ : ∃ m, k = m + 1 := ⟨k - 1, by omega⟩
    have hlt : n < x.length := by omega
    have e1 : wrap64 (c + 1) = c + 1 := by unfold wrap64; omega
    have e2 : wrap64 (c + 1 + 1) = c + 1 + 1 := by unfold wrap64; omega
    have e3 : wrap64 (c + 1 + 1 + 1) = c + 1 + 1 + 1 := by unfold wrap64; omega
    have e4 : wrap64 (c + 1 + 1 + 1 + 1) = c + 1 + 1 + 1 + 1 := by unfold wrap64; omega
    simp only [laws_markEventS.l0, Option.bind_some, Int.toNat_natCast]
    rw [if_pos (by omega), if_pos (by omega), w1 hlt (by omega)]
    simp only [e1, e2, e3, e4, List.set_set, rdsetEvent x n _ hlt]
    rw [ih k _ _ (n + 1) (by rw [List.length_set]; omega) (by rw [List.length_set]; omega) (by rw [List.length_set]; omega) (by omega) (by omega) (by omega), set_take _ _ _ hlt]
    congr 1
    refine Prod.ext ?_ ?_
    · show _ = _
      omega
    · simp [markedEvent]
theorem laws_markEventS.ok (x : List S37) (c : Int) (hm : x.length ≤ 1048576) (h0 : 0 ≤ c) (h1 : c ≤ 1000000) (k : Nat) (hk : x.length < k) : laws_markEventS.f k x c = some (c + 4 * x.length, markedEvent x.length c) := by
  unfold laws_markEventS.f
  have h := laws_markEventS.loop x.length k x c 0 hm (by omega) (by omega) hk h0 (by omega)
  simpa using h
theorem laws_heldEventS.loop (x : List S37) (hm : x.length ≤ 1048576) : ∀ (d k : Nat) (c : Int) (n : Nat), n ≤ x.length → x.length - n = d → d < k → 0 ≤ c → c ≤ 1000000000000 - 4 * d → x.drop n = markedEvent d c → laws_heldEventS.l0 k x c (n : Int) = some (c + 4 * d) := by
  intro d
  induction d with
  | zero =>
    intro k c n hn hd hk h0 h1 hx
    obtain ⟨k, rfl⟩ : ∃ m, k = m + 1 := ⟨k - 1, by omega⟩
    simp only [laws_heldEventS.l0]
    rw [if_neg (by omega)]
    simp
  | succ d ih =>
    intro k c n hn hd hk h0 h1 hx
    obtain ⟨k, rfl⟩ : ∃ m, k = m + 1 := ⟨k - 1, by omega⟩
    have hlt : n < x.length := by omega
    have e1 : wrap64 (c + 1) = c + 1 := by unfold wrap64; omega
    have e2 : wrap64 (c + 1 + 1) = c + 1 + 1 := by unfold wrap64; omega
    have e3 : wrap64 (c + 1 + 1 + 1) = c + 1 + 1 + 1 := by unfold wrap64; omega
    have e4 : wrap64 (c + 1 + 1 + 1 + 1) = c + 1 + 1 + 1 + 1 := by unfold wrap64; omega
    rw [List.drop_eq_getElem_cons hlt] at hx
    simp only [markedEvent, List.cons.injEq] at hx
    obtain ⟨hx1, hx2⟩ := hx
    simp only [laws_heldEventS.l0]
    rw [if_pos (by omega), if_pos (by omega), w1 hlt (by omega), rdT37 x n hlt, hx1]
    simp only [e1, e2, e3, e4, if_true, bne_self_eq_false, Bool.false_eq_true, if_false]
    rw [ih k _ (n + 1) (by omega) (by omega) (by omega) (by omega) (by omega) hx2]
    congr 1
    omega
theorem laws_heldEventS.ok (m : Nat) (c : Int) (hm : m ≤ 1048576) (h0 : 0 ≤ c) (h1 : c ≤ 1000000) (k : Nat) (hk : m < k) : laws_heldEventS.f k (markedEvent m c) c = some (c + 4 * m) := by
  unfold laws_heldEventS.f
  have h := laws_heldEventS.loop (markedEvent m c) (by rw [markedEvent_length]; exact hm) m k c 0 (by omega) (by rw [markedEvent_length]; omega) hk h0 (by omega) (by simp)
  simpa using h

end Go.Proofs.Ytmacgllblbeegaa.F

/- The pure statement of FnExactPutEvent: over numbers and lists alone. -/
namespace Go.Proofs.Ytmacgllblbeegaa.Pure
open Go.RowKit Go.Proofs.Ytmacgllblbeegaa.F Go.Proofs.Ytmacgllblbeegaa.Opened Go.Proofs.YtmacgllblbeegaaW.PrintWords Go.Proofs.YtmacgllblbeegaaW.PrintLast Go.Proofs.YtmacgllblbeegaaW.PrintMore
set_option linter.unusedVariables false
set_option linter.unusedSimpArgs false
attribute [local congr] bind_left

/-- The pure statement of laws_FnExactPutEvent. -/
def Pure_FnExactPutEvent : Prop := ∀ (l0 : List S34) (a1_0 : Int) (a1_1 : Int) (a1_2 : Int) (a1_3 : Int), l0.length ≤ 9223372036854775807 → (∀ x ∈ l0, Good34 x) → I64 a1_0 → I64 a1_1 → I64 a1_2 → I64 a1_3 → ∃ k, laws_FnExactPutEvent.f k l0 a1_0 a1_1 a1_2 a1_3 = some true

theorem pure_FnExactPutEvent : Pure_FnExactPutEvent := by
  intro l0 a1_0 a1_1 a1_2 a1_3 hl0 hg0 ha1_0 ha1_1 ha1_2 ha1_3
  by_cases hb0 : 1048576 < l0.length
  · refine ⟨0, ?_⟩
    unfold laws_FnExactPutEvent.f
    rw [laws_szEventS.ok l0 _ hl0 (by omega) (by omega), if_pos (by omega)]
    rfl
  have hm0 : l0.length ≤ 1048576 := by omega
  have hs0 : laws_szEventS.f l0 ((1048576 : Int)) = some ((1048576 : Int) - l0.length) := by
    rw [laws_szEventS.ok l0 _ hl0 (by omega) (by omega), if_neg (by omega)]
  have hn0 : ¬ ((1048576 : Int) - l0.length < 0) := by omega
  have T0 := fun k hk => laws_toEventS.ok l0 hm0 k hk
  generalize hx0 : l0.map conv34 = x0 at T0
  have n0 : x0.length = l0.length := by rw [← hx0, List.length_map]
  have kn0 : ¬ ((1 : Int) + 4 * (x0.length : Int) < 0) := by omega
  have rl := putSc_len x0 ⟨a1_0, a1_1, a1_2, a1_3⟩ (by omega)
  have kn1 : ¬ ((1 : Int) + 4 * ((putSc x0 ⟨a1_0, a1_1, a1_2, a1_3⟩).1.length : Int) < 0) := by omega
  have S1 : ∀ k, 2 * x0.length + 40 < k → spec_PutEvent.f k x0 a1_0 a1_1 a1_2 a1_3 = some (putSc x0 ⟨a1_0, a1_1, a1_2, a1_3⟩) := fun k hk => spec_PutEvent.ok x0 ⟨a1_0, a1_1, a1_2, a1_3⟩ (by omega) k (by omega)
  have S2 : ∀ k, 2 * x0.length + 40 < k → impl_PutEvent.f k x0 a1_0 a1_1 a1_2 a1_3 = some (putSc x0 ⟨a1_0, a1_1, a1_2, a1_3⟩) := fun k hk => impl_PutEvent.ok x0 ⟨a1_0, a1_1, a1_2, a1_3⟩ (by omega) k (by omega)
  generalize putSc x0 ⟨a1_0, a1_1, a1_2, a1_3⟩ = r at S1 S2 rl kn1
  obtain ⟨r1, r2⟩ := r
  simp only at rl kn1
  obtain ⟨rl, rl2⟩ := rl
  refine ⟨2 * l0.length + 200, ?_⟩
  simp (maxSteps := 3000000) (disch := first | assumption | omega) only [laws_FnExactPutEvent.f, laws_FnExactPutEvent.j0, laws_FnExactPutEvent.j1, laws_FnExactPutEvent.j2, hs0, hn0, T0, laws_eqEventS.ok, laws_markEventS.ok, laws_heldEventS.ok, laws_toEvent.f, S1, S2, kn0, kn1, eq_self, Option.bind_some, ↓reduceIte, if_true, if_false, decide_true, decide_false, Bool.not_true, Bool.not_false, bne_self_eq_false, Bool.false_eq_true, not_true_eq_false, Int.reduceLT]

end Go.Proofs.Ytmacgllblbeegaa.Pure

/- FnExactPutEvent: for every input the law answers true, and each argument reads behind the call as it read before. No condition. -/
namespace Go.Proofs.Ytmacgllblbeegaa.fnExactPutEvent
open Go.ChangeShapes Go.WideShapes Go.ChangeAt Go.RowKit Go.Joins Go.Proofs.YtmacgllblbeegaaW.PrintWords Go.Proofs.Ytmacgllblbeegaa.Opened Go.Proofs.Ytmacgllblbeegaa.F
open Go.ChangeMaps (open_string shut_string)
set_option linter.unusedVariables false
theorem own : ownKnob Try.prog.godebug = none := by kernel_rfl
theorem laidOut : laidOutB Try.prog = true := by kernel_rfl
set_option maxRecDepth 100000 in
theorem lifted (os : Os) (started : os.Started) (H : Type) (enc : TypeId × Value → H) :
    ReturnsInHanded {} Try.checked os 7 .any (Rows.fnExactPutEventSpec.pre6 enc Try.prog Try.f7 Rows.fnExactPutEventRow.domain false) (Rows.fnExactPutEventSpec.post enc Try.prog Try.f7 false true false false) := by
  refine returnsInHanded_of_change_sized (C := Try.checked) own started (by kernel_rfl) Try.func7
    (ChangeSpec.witness6 (enc := enc) (C := Try.checked) false ⟨#[], #[.slice none 0 0, .agg #[.int .i64 0, .int .i64 0, .int .i64 0, .int .i64 0]], []⟩ 8 (by kernel_rfl) (by kernel_rfl) (by kernel_rfl) (by kernel_rfl)) ?_
  intro W base args ds gs before hval0 hW hcnd hsz0 _
  have hval : ∀ (j : Nat) t v, Try.f7.params[j]? = some t → args[j]? = some v → Value.okWide Try.prog W .any base t v := hval0
  have hW' := hW
  obtain ⟨p, q, hA0, hV, rfl, hfz, hnd⟩ := hW
  have hA : DataW.TrodAll enc Try.prog W 0 (fun _ => true) true Try.f7.params.toList args.toList ds p := hA0
  rw [Try.params7] at hA hval
  obtain ⟨v0, vs0, d0, ds0, p0, q0, hargs, rfl, rfl, h0, r0⟩ := trodAll_cons hA
  obtain ⟨v1, vs1, d1, ds1, p1, q1, rfl, rfl, rfl, h1, r1⟩ := trodAll_cons r0
  obtain ⟨rfl, rfl, rfl⟩ := trodAll_nil r1
  obtain rfl : args = #[v0, v1] := by cases args; simp_all
  obtain ⟨rfl, rfl⟩ := trodVars_none hV
  have k0 := h0
  have lt0 : ∀ x ∈ p0, x.block < W.heap.size := by obtain ⟨m, hm⟩ := k0; exact DataW.trod_lt m _ _ _ hm
  obtain ⟨b0, len0, cap0, rfl⟩ := okWide_slice Try.underlying22 (hval 0 22 v0 rfl rfl)
  obtain ⟨l0, hl0, hc0, hC0, hg0⟩ := open_rows k34 Good34 Try.underlying22 Try.underlying34 (by kernel_rfl) (by kernel_rfl) (by rfl) (hk34 Try.underlying34) h0
  subst hl0
  have k1 := h1
  have lt1 : ∀ x ∈ p1, x.block < W.heap.size := by obtain ⟨m, hm⟩ := k1; exact DataW.trod_lt m _ _ _ hm
  obtain ⟨c1_0, c1_1, c1_2, c1_3, y1_0, y1_1, y1_2, y1_3, m1, rfl, rfl, rfl, hy1_0, hy1_1, hy1_2, hy1_3⟩ := open_agg4 Try.underlying34 (by kernel_rfl) (by kernel_rfl) (hval 1 34 v1 rfl rfl) h1
  obtain ⟨a1_0, e1_0, _, w1_0⟩ := DataW.trod_int Try.underlying3 hy1_0
  obtain rfl := List.head_eq_of_cons_eq e1_0
  obtain ⟨a1_1, e1_1, _, w1_1⟩ := DataW.trod_int Try.underlying3 hy1_1
  obtain rfl := List.head_eq_of_cons_eq e1_1
  obtain ⟨a1_2, e1_2, _, w1_2⟩ := DataW.trod_int Try.underlying3 hy1_2
  obtain rfl := List.head_eq_of_cons_eq e1_2
  obtain ⟨a1_3, e1_3, _, w1_3⟩ := DataW.trod_int Try.underlying3 hy1_3
  obtain rfl := List.head_eq_of_cons_eq e1_3
  clear hA0 hval0 hsz0
  obtain ⟨kk, hp⟩ := Pure.pure_FnExactPutEvent l0 a1_0 a1_1 a1_2 a1_3 hC0.2.1 hg0 (i64_of w1_0) (i64_of w1_1) (i64_of w1_2) (i64_of w1_3)
  refine (laws_FnExactPutEvent.calls kk _ _ l0 a1_0 a1_1 a1_2 a1_3 true W hC0 hc0 hp).mono fun e W' ⟨he, bel0⟩ => ?_
  have bel : Below W.heap.size W W' := bel0
  subst he
  exact ⟨_, rfl, _, _, _, [], _, [], hW', trodAll_mk1 (shut_bool Try.underlying4 _), (trodAll_cons_mk (Below.trod laidOut (by kernel_rfl) (of_decide_eq_true (by kernel_rfl)) k0 bel lt0) (trodAll_cons_mk (Below.trod laidOut (by kernel_rfl) (of_decide_eq_true (by kernel_rfl)) k1 bel lt1) trodAll_mk0)), rfl, bel.frame _, fun h => by cases h⟩
theorem over : Rows.fnExactPutEventRow.holds Try.pinned (OpenSpec.ofChange Rows.fnExactPutEventSpec) :=
  OpenClaim.holds_of_wide 7 Try.f7 rfl rfl rfl rfl rfl rfl rfl ⟨rfl, rfl, rfl, rfl, rfl⟩ rfl rfl rfl rfl rfl (by kernel_rfl) Try.func7 (by kernel_rfl)
    (of_decide_eq_true (by kernel_rfl)) (by unfold Func.isWrapper; first | (rw [if_pos (by decide +kernel)]; kernel_rfl) | (rw [if_neg (by decide +kernel)]; exact ⟨rfl, rfl⟩))
    (fun os started H enc _ => lifted os started H enc)
theorem proved : Rows.FnExactPutEventSaid := over
#print axioms proved
end Go.Proofs.Ytmacgllblbeegaa.fnExactPutEvent
namespace Go.Proofs.Ytmacgllblbeegaa
/-- The row, under a short name, for the claim. -/
theorem fnExactPutEvent_holds : Rows.FnExactPutEventSaid := fnExactPutEvent.proved
end Go.Proofs.Ytmacgllblbeegaa
