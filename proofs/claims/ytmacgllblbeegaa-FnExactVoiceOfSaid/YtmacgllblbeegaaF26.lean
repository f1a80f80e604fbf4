-- Written for this claim by the kit's print.py out of the translation, called by wip/tools/fprint.py. Lean checks it.
import Derived.Says
import Derived.Shelf.Abstract
import Derived.Lib.SliceRun
import Derived.Test.YtmacgllblbeegaaF0
import Derived.Test.YtmacgllblbeegaaF25
namespace Go.Proofs.Ytmacgllblbeegaa.F
open Go.RowKit Go.Proofs.YtmacgllblbeegaaW.PrintWords Go.Proofs.YtmacgllblbeegaaW.PrintLast Go.Proofs.YtmacgllblbeegaaW.PrintMore
attribute [local go_sem] max2_int min2_int max_two min_two max_three min_three max_four min_four   -- for this text's walks alone
set_option linter.unusedVariables false
set_option linter.unusedSimpArgs false

/-! ### impl_VoiceOf: function 23 -/
-- LIKE spec_VoiceOf
-- ROUNDS no
-- IMPORT Derived.Says
-- IMPORT Derived.Shelf.Abstract
-- IMPORT Derived.Lib.SliceRun
-- NEEDS impl.clone[impl.Event]
set_option maxHeartbeats 8000000 in
set_option maxRecDepth 100000 in
theorem vo_pred (a1 : Int) (gb : Nat) (x : S37) (w : World) (hbox : w.heap[gb]? = some (.cells #[.int .i64 a1] 3 (0, 0))) :
    Calls Try.prog 54 #[.agg #[.int .i64 x.f0, .int .i64 x.f1, .int .i64 x.f2, .int .i64 x.f3], .pointer (some ⟨gb, 0, none⟩)] w fun e w' => e = .returned (.bool (x.f3 != a1)) ∧ Below w.heap.size w w' := by
  have hc : w.cell? ⟨gb, 0, none⟩ = some (.int .i64 a1) := (blk_cell hbox 0).trans rfl
  have hlt : gb < w.heap.size := blk_lt hbox
  have hne : gb ≠ w.heap.size := by omega
  clear hbox
  go_enter Try.func54, Try.ntmps54
  go_wp2
  all_goals (go_ret; exact ⟨by simp_all, (Below.refl _ w).alloc (Nat.le_refl _) _⟩)

/-- Not of the voice. -/
def notV (a1 : Int) (x : S37) : Bool := x.f3 != a1
/-- Where the first event of another voice stands. -/
def voIdx (a1 : Int) (l : List S37) : Int := if l.findIdx (notV a1) < l.length then ((l.findIdx (notV a1) : Nat) : Int) else -1
theorem rdV (l : List S37) (i : Int) (h0 : 0 ≤ i) (h1 : i.toNat < l.length) : rd_T37 l i = l[i.toNat] := by
  unfold rd_T37
  rw [List.getD_eq_getElem?_getD, List.getElem?_eq_getElem h1]
  rfl
set_option maxHeartbeats 8000000 in
set_option maxRecDepth 100000 in
theorem vo_index (a1 : Int) (gb : Nat) (A : Option Addr) (c : Nat) (l : List S37) (w : World) (hC : Kd.C k37 w A l.length l) (hbig : l.length ≤ 9223372036854775807) (hbox : w.heap[gb]? = some (.cells #[.int .i64 a1] 3 (0, 0))) :
    Calls Try.prog 58 #[.slice A l.length c, .func (.func 54) #[] #[.pointer (some ⟨gb, 0, none⟩)]] w fun e w' => e = .returned (.int .i64 (voIdx a1 l)) ∧ Below w.heap.size w w' := by
  have eg : ∀ args w, (callFunc 54 args).run Try.prog w = .ok (.enter 54 args) w := enters_of Try.func54 (by kernel_rfl) rfl
  have HC := Aside0.mk hC
  have HX := Aside0.mk hbox
  clear hC hbox
  have HB := Aside0.mk (Below.refl w.heap.size w)
  go_enter Try.func58, Try.ntmps58
  go_wp2
  go_loopg [5, 8] l.length (fun gg _ s8 wr => ∃ i : Int, s8 = .int .i64 i ∧ Aside0 (0 ≤ i ∧ i ≤ l.length ∧ l.length - i.toNat ≤ gg) ∧ Aside0 (Below w.heap.size w wr) ∧ Aside0 (∀ j (h : j < l.length), j < i.toNat → notV a1 l[j] = false))
  case atStart => exact ⟨0, by first | rfl | simp, ⟨by omega, by omega, by omega⟩, HB, ⟨fun j h h' => absurd h' (by simp)⟩⟩
  case round =>
    clear HB
    obtain ⟨i, rfl, HI, HB, HN⟩ := hrel
    obtain ⟨h0, h1, hg⟩ := HI.out
    clear HI
    by_cases hlt : i < (l.length : Int)
    · have hltn : i.toNat < l.length := by omega
      have hb0 : decide (i < (l.length : Int)) = true := decide_eq_true hlt
      obtain ⟨ad, e, hx0, hx1, hx2, hx3⟩ := at_T37 (Kd.C_below HC.out HB.out) i h0 hlt
      cases e
      have HG := Aside0.mk (And.intro h0 (And.intro h1 hg))
      have HL := Aside0.mk (And.intro hlt hltn)
      replace h0 := eq_true h0
      replace hlt := eq_true hlt
      clear h1 hg hltn
      have hbx := blk_below HX.out HB.out
      have hcall := vo_pred a1 gb (rd_T37 l i) wr hbx
      clear hbx
      generalize hy : rd_T37 l i = y at hcall hx0 hx1 hx2 hx3
      have HY := Aside0.mk hy
      clear hy
      cases hq : (y.f3 != a1) with
      | true =>
        rw [hq] at hcall
        go_wp2_with (go_at_fn 54; refine hcall.mono ?_; rintro e w' ⟨rfl, hb'⟩)
        go_ret
        refine ⟨?_, below_step HB.out hb'⟩
        have hltn := HL.out.2
        have e1 : l.findIdx (notV a1) = i.toNat := by
          rw [List.findIdx_eq hltn]
          refine ⟨?_, fun j hj => HN.out j (by omega) hj⟩
          rw [← rdV l i HG.out.1 hltn, HY.out]
          exact hq
        have := HG.out.1
        unfold voIdx
        rw [e1, if_pos hltn, Int.toNat_of_nonneg HG.out.1]
        rfl
      | false =>
        rw [hq] at hcall
        go_wp2_with (go_at_fn 54; refine hcall.mono ?_; rintro e w' ⟨rfl, hb'⟩)
        go_roundg (l.length - (i + 1).toNat)
        case measure => have := HG.out; have := HL.out; omega
        case rel =>
          have g := HG.out
          have g2 := HL.out
          have ew : wrap64 (i + 1) = i + 1 := by unfold wrap64; omega
          refine ⟨wrap64 (i + 1), (by first | rfl | (simp; done) | (simp [*]; done)), ⟨by omega, by omega, by omega⟩, ⟨below_step HB.out hb'⟩, ⟨fun j h hj => ?_⟩⟩
          rw [ew] at hj
          by_cases e : j = i.toNat
          · subst e
            rw [← rdV l i g.1 h, HY.out]
            exact hq
          · exact HN.out j h (by omega)
    · have hb0 : decide (i < (l.length : Int)) = false := decide_eq_false hlt
      have hi : i.toNat = l.length := by omega
      clear hg h0 h1
      go_wp2
      go_ret
      refine ⟨?_, HB.out⟩
      have e1 : l.findIdx (notV a1) = l.length := by
        rw [List.findIdx_eq_length]
        intro x hx
        obtain ⟨j, hj, rfl⟩ := List.getElem_of_mem hx
        exact HN.out j hj (by omega)
      unfold voIdx
      rw [e1, if_neg (by omega)]
      rfl
theorem setCells_app (go : Nat) : ∀ (us bs : List Value) (o : Nat) (w : World), w.setCells go o (us ++ bs) = (w.setCells go o us).setCells go (o + us.length) bs
  | [], bs, o, w => rfl
  | a :: us, bs, o, w => by
    show (w.setCell ⟨go, o, none⟩ a).setCells go (o + 1) (us ++ bs) = ((w.setCell ⟨go, o, none⟩ a).setCells go (o + 1) us).setCells go (o + (a :: us).length) bs
    rw [setCells_app go us bs (o + 1), List.length_cons, show o + 1 + us.length = o + (us.length + 1) by omega]
/-- A row of events, cleared from some element on. -/
theorem R_clear4 {base go cap n : Nat} : ∀ (m i : Nat) (W : World) (x : List S37), i + m = n → Kd.R k37 37 W base (fun _ => True) (.slice (some ⟨go, 0, none⟩) n cap) x →
    Kd.R k37 37 (W.setCells go (i * 4) (List.replicate (m * 4) (.int .i64 0))) base (fun _ => True) (.slice (some ⟨go, 0, none⟩) n cap) (x.take i ++ List.replicate m z37)
  | 0, i, W, x, hi, h => by
    have hx := (Kd.R_reads' h).1
    have e : x.take i ++ List.replicate 0 z37 = x := by rw [List.replicate_zero, List.append_nil, List.take_of_length_le (by omega)]
    rw [e]
    simpa [World.setCells] using h
  | m + 1, i, W, x, hi, h => by
    have hx := (Kd.R_reads' h).1
    have e4 : List.replicate ((m + 1) * 4) (Value.int .i64 0) = [.int .i64 0, .int .i64 0, .int .i64 0, .int .i64 0] ++ List.replicate (m * 4) (.int .i64 0) := by
      rw [show (m + 1) * 4 = m * 4 + 1 + 1 + 1 + 1 by omega]
      simp [List.replicate_succ]
    rw [e4, setCells_app]
    obtain ⟨ce, hcl, hM, hcc, hfr⟩ := Kd.R_elem h z37 (i : Int) (by omega) (by omega)
    have HP := Kd.R_seg (okp := fun _ => False) h (i : Int) (by omega) (by omega) (seg := [.int .i64 0, .int .i64 0, .int .i64 0, .int .i64 0]) (j := 0) hcl hcc (show 4 ≤ 4 from by decide) (x' := z37) (by
      have e5 : ce.drop (0 + [Value.int .i64 0, .int .i64 0, .int .i64 0, .int .i64 0].length) = [] := List.drop_of_length_le (by rw [hcl]; exact Nat.le_refl _)
      rw [e5]
      exact k37_mkM W base (fun _ => False) z37) (fun _ hk => False.elim hk)
    have H1 := HP.1
    simp only [Int.toNat_natCast, Nat.add_zero] at H1
    have H2 := R_clear4 m (i + 1) _ (x.set i z37) (by omega) H1
    have e6 : (x.set i z37).take (i + 1) ++ List.replicate m z37 = x.take i ++ List.replicate (m + 1) z37 := by
      rw [List.replicate_succ, List.take_succ_eq_append_getElem (by simp; omega)]
      simp [List.take_set_of_le]
    rw [e6, show (i + 1) * 4 = i * 4 + 4 by omega] at H2
    exact H2
set_option maxRecDepth 100000 in
/-- The builtin clear, over a row of events. -/
theorem run_clear4 (W : World) (ty go off m cap : Nat) (hm : 0 < m) (hc : ∀ j, j < m * 4 → (W.cell? ⟨go, off + j, none⟩).isSome = true) (hf : ∀ j, j < m * 4 → W.frozen? ⟨go, off + j, none⟩ = false) :
    (Builtin.clear_ #[25] ty #[.slice (some ⟨go, off, none⟩) m cap]).run Try.prog W = .ok (.tuple #[]) (W.setCells go off (List.replicate (m * 4) (.int .i64 0))) := by
  have hzc : (Builtin.zeroCells (Value.agg #[.int .i64 0, .int .i64 0, .int .i64 0, .int .i64 0]).cells m).toList = List.replicate (m * 4) (Value.int .i64 0) := by
    have e : (Value.agg #[.int .i64 0, .int .i64 0, .int .i64 0, .int .i64 0]).cells = #[.int .i64 0, .int .i64 0, .int .i64 0, .int .i64 0] := rfl
    rw [e]
    apply List.ext_getElem
    · simp [Builtin.zeroCells]
    · intro i h1 h2
      have h4 : i % 4 < 4 := Nat.mod_lt _ (by decide)
      simp only [Builtin.zeroCells, Array.toList_map, List.getElem_map, List.getElem_replicate]
      simp only [Array.getElem_toList, Array.getElem_range]
      show (#[Value.int .i64 0, .int .i64 0, .int .i64 0, .int .i64 0])[i % 4]! = _
      generalize i % 4 = q at h4
      match q, h4 with
      | 0, _ => rfl
      | 1, _ => rfl
      | 2, _ => rfl
      | 3, _ => rfl
  have hst := run_storeCells_cells (P := Try.prog) go off (List.replicate (m * 4) (.int .i64 0)) 0 W (by simpa using hc) (by simpa using hf) (by intro v hv'; rw [List.eq_of_mem_replicate hv']; rfl)
  simp only [Nat.add_zero] at hst
  obtain ⟨m, rfl⟩ : ∃ k, m = k + 1 := ⟨m - 1, by omega⟩
  simp [Builtin.clear_, run_underlying Try.underlying25, Try.zeroValue37, hzc, hst]
/-- What the loop of DeleteFunc keeps: i events are kept, j are looked at, the rest stand as they stood. -/
structure VoInv (a1 : Int) (l x : List S37) (i j : Nat) : Prop where
  len : x.length = l.length
  lt : i < j
  le : j ≤ l.length
  kept : x.take i = (l.take j).filter (fun y => !notV a1 y)
  rest : x.drop j = l.drop j
theorem VoInv.start {a1 : Int} {l : List S37} (h : l.findIdx (notV a1) < l.length) : VoInv a1 l l (l.findIdx (notV a1)) (l.findIdx (notV a1) + 1) := by
  have hn : ∀ y ∈ l.take (l.findIdx (notV a1)), notV a1 y = false := by
    intro y hy
    obtain ⟨j, hj, rfl⟩ := List.getElem_of_mem hy
    rw [List.length_take] at hj
    rw [List.getElem_take]
    exact List.not_of_lt_findIdx (by omega)
  refine ⟨rfl, Nat.lt_succ_self _, h, ?_, rfl⟩
  rw [List.take_succ_eq_append_getElem h, List.filter_append]
  have e1 : (l.take (l.findIdx (notV a1))).filter (fun y => !notV a1 y) = l.take (l.findIdx (notV a1)) := by
    rw [List.filter_eq_self]
    intro y hy
    simp [hn y hy]
  have e2 : notV a1 l[l.findIdx (notV a1)] = true := List.findIdx_getElem
  rw [e1]
  simp [e2]
theorem VoInv.read {a1 : Int} {l x : List S37} {i j : Nat} (h : VoInv a1 l x i j) (hj : j < l.length) : x[j]'(by have := h.len; omega) = l[j] := by
  have hx : j < x.length := by have := h.len; omega
  have e := h.rest
  rw [List.drop_eq_getElem_cons hx, List.drop_eq_getElem_cons hj] at e
  exact (List.cons.inj e).1
theorem VoInv.keep {a1 : Int} {l x : List S37} {i j : Nat} (h : VoInv a1 l x i j) (hj : j < l.length) (hq : notV a1 l[j] = false) : VoInv a1 l (x.set i l[j]) (i + 1) (j + 1) := by
  have hx : j < x.length := by have := h.len; omega
  have hlt := h.lt
  refine ⟨by simp [h.len], by omega, hj, ?_, ?_⟩
  · rw [List.take_succ_eq_append_getElem (by simp; omega), List.take_succ_eq_append_getElem hj, List.filter_append, ← h.kept]
    simp [hq, List.take_set_of_le]
  · have e := h.rest
    rw [List.drop_eq_getElem_cons hx, List.drop_eq_getElem_cons hj] at e
    rw [List.drop_set_of_lt (by omega)]
    exact (List.cons.inj e).2
theorem VoInv.skip {a1 : Int} {l x : List S37} {i j : Nat} (h : VoInv a1 l x i j) (hj : j < l.length) (hq : notV a1 l[j] = true) : VoInv a1 l x i (j + 1) := by
  have hx : j < x.length := by have := h.len; omega
  have hlt := h.lt
  refine ⟨h.len, by omega, hj, ?_, ?_⟩
  · rw [h.kept, List.take_succ_eq_append_getElem hj, List.filter_append]
    simp [hq]
  · have e := h.rest
    rw [List.drop_eq_getElem_cons hx, List.drop_eq_getElem_cons hj] at e
    exact (List.cons.inj e).2
theorem VoInv.done {a1 : Int} {l x : List S37} {i : Nat} (h : VoInv a1 l x i l.length) : x.take i = l.filter (fun y => !notV a1 y) := by
  have := h.kept
  rwa [List.take_length] at this
theorem vo_none {a1 : Int} {l : List S37} (h : ¬ l.findIdx (notV a1) < l.length) : l.filter (fun y => !notV a1 y) = l := by
  rw [List.filter_eq_self]
  intro y hy
  have h1 : l.findIdx (notV a1) = l.length := Nat.le_antisymm List.findIdx_le_length (by omega)
  rw [List.findIdx_eq_length] at h1
  simp [h1 y hy]
theorem below_cells {B go : Nat} {w : World} (hg : B ≤ go) : ∀ (vs : List Value) (o : Nat) (W : World), Below B w W → Below B w (W.setCells go o vs)
  | [], _, _, h => h
  | v :: vs, o, W, h => below_cells hg vs (o + 1) _ (h.setCell hg v)
theorem R_some4 {base go cap n : Nat} {W : World} {x : List S37} (h : Kd.R k37 37 W base (fun _ => True) (.slice (some ⟨go, 0, none⟩) n cap) x) (q : Nat) (hq : q < n * 4) : (W.cell? ⟨go, q, none⟩).isSome = true ∧ W.frozen? ⟨go, q, none⟩ = false := by
  obtain ⟨ce, hcl, hM, hcc, hfr⟩ := Kd.R_elem h z37 ((q / 4 : Nat) : Int) (by omega) (by omega)
  rw [Int.toNat_natCast] at hcc hfr
  have hl : q % 4 < ce.length := by rw [hcl]; exact Nat.mod_lt _ (by decide)
  have e : q / 4 * k37.sz + q % 4 = q := by show q / 4 * 4 + q % 4 = q; omega
  have h1 := hcc (q % 4) _ (List.getElem?_eq_getElem hl)
  have h2 := hfr (q % 4)
  rw [e] at h1 h2
  rw [h1]
  exact ⟨rfl, h2⟩
set_option maxHeartbeats 8000000 in
set_option maxRecDepth 100000 in
theorem vo_delete (a1 : Int) (gb base : Nat) (v : Value) (l : List S37) (w : World) (HR : Kd.R k37 37 w base (fun _ => True) v l) (hbox : w.heap[gb]? = some (.cells #[.int .i64 a1] 3 (0, 0))) (hbig : l.length ≤ 4398046511104) (hbs : base ≤ w.heap.size) :
    Calls Try.prog 52 #[v, .func (.func 54) #[] #[.pointer (some ⟨gb, 0, none⟩)]] w fun e w' => ∃ v0_ : Value, e = .returned v0_ ∧ Kd.R k37 37 w' base (fun _ => True) v0_ (l.filter (fun y => !notV a1 y)) ∧ Below base w w' := by
  obtain ⟨A, c, rfl⟩ := Kd.R_slice HR
  have hC := (Kd.R_reads' HR).2.2
  have hcap := (Kd.R_reads' HR).2.1
  have hIF := vo_index a1 gb A c l w hC (by omega) hbox
  have eg : ∀ args w, (callFunc 54 args).run Try.prog w = .ok (.enter 54 args) w := enters_of Try.func54 (by kernel_rfl) rfl
  by_cases hk : l.findIdx (notV a1) < l.length
  · obtain ⟨k0, hk0⟩ : ∃ k0, k0 = l.findIdx (notV a1) := ⟨_, rfl⟩
    have hinv := VoInv.start hk
    have e1 : voIdx a1 l = (k0 : Int) := by unfold voIdx; rw [if_pos hk, hk0]
    rw [← hk0] at hinv hk
    rw [e1] at hIF
    obtain ⟨go, co, eo, hgb, hgl, cl, hcl⟩ := Kd.R_form HR (by omega)
    cases eo
    have hne0 := Kd.R_ne HR hbox (by decide)
    have hne : gb ≠ go := by intro e; exact hne0 (by rw [e]; rfl)
    have HO := Aside0.mk HR
    have HX := Aside0.mk hbox
    have HI := Aside0.mk hinv
    have HK := Aside0.mk (And.intro hk hcap)
    have NE := Aside0.mk hne
    have GB := Aside0.mk hgb
    have BS := Aside0.mk hbs
    have hm1 : ((k0 : Int) == -1) = false := beq_eq_false_iff_ne.2 (by omega)
    clear HR hbox hinv hC hcl hgl hk hcap hne hne0 hgb hbs e1 hk0
    go_enter Try.func52, Try.ntmps52
    go_wp2_with (go_at_call 58; refine hIF.mono ?_; rintro e w1 ⟨rfl, hb1⟩)
    have HB := Aside0.mk hb1
    clear hb1
    go_loopg [5, 6, 7] l.length (fun gg s5 s6 _ wr => ∃ (x : List S37) (i j : Int), s5 = .int .i64 i ∧ s6 = .int .i64 j ∧ Aside0 (0 ≤ i ∧ 0 ≤ j ∧ l.length - j.toNat ≤ gg) ∧ Aside0 (VoInv a1 l x i.toNat j.toNat) ∧ Aside0 (Kd.R k37 37 wr base (fun _ => True) (.slice (some ⟨go, 0, none⟩) l.length c) x) ∧ Aside0 (wr.heap[gb]? = some (.cells #[.int .i64 a1] 3 (0, 0))) ∧ Aside0 (Below base w wr) ∧ Aside0 (base ≤ wr.heap.size))
    case atStart =>
      have ew : wrap64 ((k0 : Int) + 1) = (k0 : Int) + 1 := by have := HK.out; unfold wrap64; omega
      refine ⟨l, (k0 : Int), wrap64 ((k0 : Int) + 1), rfl, (by first | rfl | (simp; done) | (simp [*]; done)), ⟨by omega, by omega, by omega⟩, ⟨?_⟩, ⟨Kd.R_below HO.out HB.out⟩, ⟨blk_below HX.out HB.out⟩, ⟨HB.out.mono BS.out⟩, ⟨Nat.le_trans BS.out (below_size HB.out)⟩⟩
      have := HI.out
      rw [ew, show ((k0 : Int) + 1).toNat = k0 + 1 by omega, Int.toNat_natCast]
      exact this
    case round =>
      clear HB HO HX HI hIF hm1
      obtain ⟨x, i, j, rfl, rfl, HG, HI, HO, HX, HB, BR⟩ := hrel
      have hxl := HI.out.len
      by_cases hlt : j < (l.length : Int)
      · have hjn : j.toNat < l.length := by have := HG.out; omega
        have hb0 : decide (j < (l.length : Int)) = true := decide_eq_true hlt
        have hrd := HI.out.read hjn
        obtain ⟨ad, e, hx0, hx1, hx2, hx3⟩ := at_T37 (Kd.R_reads' HO.out).2.2 j HG.out.2.1 (by omega)
        cases e
        (first | simp only [add_plain] at hx0 | skip)
        (first | simp only [add_plain] at hx1 | skip)
        (first | simp only [add_plain] at hx2 | skip)
        (first | simp only [add_plain] at hx3 | skip)
        have hri : 0 ≤ i ∧ i < (l.length : Int) := by have := HI.out.lt; have := HI.out.le; have := HG.out; omega
        have hpi := eq_true hri.1
        have hqi := eq_true hri.2
        have hpj := eq_true HG.out.2.1
        have hqj := eq_true hlt
        have hbI : decide (0 ≤ i) = true := decide_eq_true hri.1
        have hbI2 : decide (i < (l.length : Int)) = true := decide_eq_true hri.2
        rw [rdV x j HG.out.2.1 (by omega), hrd] at hx0 hx1 hx2 hx3
        have HL := Aside0.mk (And.intro hlt hjn)
        have HRI := Aside0.mk hri
        clear hlt hri hrd hxl
        obtain ⟨y, hy⟩ : ∃ y, y = l[j.toNat] := ⟨_, rfl⟩
        rw [← hy] at hx0 hx1 hx2 hx3
        have HY : Aside0 (∃ h : j.toNat < l.length, y = l[j.toNat]) := ⟨⟨hjn, hy⟩⟩
        clear hy hjn
        have HW := Aside0.mk (Below.refl wr.heap.size wr)
        cases hq : (y.f3 != a1) with
        | true =>
          go_wp2_with (first | ((with_reducible refine gate_dst (N := 7) rfl ?_); refine box_event ?hg (N := 7) ?hd (cs := #[.int .i64 0, .int .i64 0, .int .i64 0, .int .i64 0]) (t := 37) ?hr ?_; (case hd => rfl); (case hg => rfl); (case hr => first | (go_simp; done) | (go_simp; rfl)); intro gv hg w3 hbv hb; have GV := Aside0.mk ((by rw [hg]; exact (below_size (by repeat (first | (with_reducible first | exact HW.out | apply below_alloc | apply pw_below_drewN | apply below_drew1) | exact HW.out))) : wr.heap.size ≤ gv)); have n0_ := Aside0.mk (below_step (by repeat (first | (with_reducible first | exact HW.out | apply below_alloc | apply pw_below_drewN | apply below_drew1) | exact HW.out)) hb); clear HW; have HW := n0_; clear n0_; have BV := Aside0.mk hbv; have hcz0 : w3.cell? ⟨gv, 0, none⟩ = some (.int .i64 0) := (blk_cell hbv 0).trans rfl; have hcz1 : w3.cell? ⟨gv, 1, none⟩ = some (.int .i64 0) := (blk_cell hbv 1).trans rfl; have hcz2 : w3.cell? ⟨gv, 2, none⟩ = some (.int .i64 0) := (blk_cell hbv 2).trans rfl; have hcz3 : w3.cell? ⟨gv, 3, none⟩ = some (.int .i64 0) := (blk_cell hbv 3).trans rfl; have hfz0 := blk_frozen hbv 0; have hfz1 := blk_frozen hbv 1; have hfz2 := blk_frozen hbv 2; have hfz3 := blk_frozen hbv 3; clear hb hg hbv) | ((with_reducible refine gate_store (t := 37) (p := 7) rfl ?_); refine store_event (t := 37) (p := 7) (v := ?vo) (w1 := ((((w3.setCell ⟨gv, 0, none⟩ (.int .i64 y.f0)).setCell ⟨gv, 1, none⟩ (.int .i64 y.f1)).setCell ⟨gv, 2, none⟩ (.int .i64 y.f2)).setCell ⟨gv, 3, none⟩ (.int .i64 y.f3))) ?hg ?ho ?hn ?hr ?_; (case ho => rfl); (case hg => rfl); (case hn => rfl); (case hr => first | (go_simp; done) | (go_simp; rfl)); intro w4 hw; have n0_ : Aside0 (Below wr.heap.size wr w4) := ⟨by rw [hw]; exact below_set (below_set (below_set (below_set HW.out GV.out) GV.out) GV.out) GV.out⟩; have n1_ : Aside0 (w4.heap[gv]? = some (.cells #[.int .i64 y.f0, .int .i64 y.f1, .int .i64 y.f2, .int .i64 y.f3] 37 (0, 0))) := ⟨by rw [hw]; exact blk_put (blk_put (blk_put (blk_put BV.out 0 _ rfl) 1 _ rfl) 2 _ rfl) 3 _ rfl⟩; clear HW; clear BV; have HW := n0_; have BV := n1_; clear n0_ n1_; clear hcz0 hcz1 hcz2 hcz3 hfz0 hfz1 hfz2 hfz3 hw; have hcv0 : w4.cell? ⟨gv, 0, none⟩ = some (.int .i64 y.f0) := (blk_cell BV.out 0).trans rfl; have hcv1 : w4.cell? ⟨gv, 1, none⟩ = some (.int .i64 y.f1) := (blk_cell BV.out 1).trans rfl; have hcv2 : w4.cell? ⟨gv, 2, none⟩ = some (.int .i64 y.f2) := (blk_cell BV.out 2).trans rfl; have hcv3 : w4.cell? ⟨gv, 3, none⟩ = some (.int .i64 y.f3) := (blk_cell BV.out 3).trans rfl) | (go_at_fn 54; (refine (vo_pred a1 gb y _ ?hb).mono ?_); (case hb => (with_reducible repeat (first | refine blk_drewN ?_ _ | refine blk_drew ?_ | refine blk_alloc ?_ _)); exact blk_below HX.out HW.out); (rw [hq]); rintro e w5 ⟨rfl, hb⟩; have n0_ := Aside0.mk (below_step (by repeat (first | (with_reducible first | exact HW.out | apply below_alloc | apply pw_below_drewN | apply below_drew1) | exact HW.out)) hb); have n1_ := Aside0.mk (blk_below (by (with_reducible repeat (first | refine blk_drewN ?_ _ | refine blk_drew ?_ | refine blk_alloc ?_ _)); exact BV.out) hb); clear HW; clear BV; have HW := n0_; have BV := n1_; clear n0_ n1_; clear hcv0 hcv1 hcv2 hcv3 hb))
          go_roundg (l.length - (j + 1).toNat)
          case measure => have := HG.out; have := HL.out; omega
          case rel =>
            have g := HG.out
            have g2 := HL.out
            have ew : wrap64 (j + 1) = j + 1 := by unfold wrap64; omega
            refine ⟨x, i, wrap64 (j + 1), (by first | rfl | (simp; done) | (simp [*]; done)), (by first | rfl | (simp; done) | (simp [*]; done)), ⟨by omega, by omega, by omega⟩, ⟨?_⟩, ⟨Kd.R_below HO.out (by repeat (first | (with_reducible first | exact HW.out | apply below_alloc | apply pw_below_drewN | apply below_drew1) | exact HW.out))⟩, ⟨blk_below HX.out (by repeat (first | (with_reducible first | exact HW.out | apply below_alloc | apply pw_below_drewN | apply below_drew1) | exact HW.out))⟩, ⟨below_then HB.out BR.out (by repeat (first | (with_reducible first | exact HW.out | apply below_alloc | apply pw_below_drewN | apply below_drew1) | exact HW.out))⟩, ⟨Nat.le_trans BR.out (below_size (by repeat (first | (with_reducible first | exact HW.out | apply below_alloc | apply pw_below_drewN | apply below_drew1) | exact HW.out)))⟩⟩
            rw [ew, show (j + 1).toNat = j.toNat + 1 by omega]
            obtain ⟨hj, hy⟩ := HY.out
            exact HI.out.skip hj (by rw [← hy]; exact hq)
        | false =>
          go_wp2_with (first | ((with_reducible refine gate_dst (N := 7) rfl ?_); refine box_event ?hg (N := 7) ?hd (cs := #[.int .i64 0, .int .i64 0, .int .i64 0, .int .i64 0]) (t := 37) ?hr ?_; (case hd => rfl); (case hg => rfl); (case hr => first | (go_simp; done) | (go_simp; rfl)); intro gv hg w3 hbv hb; have GV := Aside0.mk ((by rw [hg]; exact (below_size (by repeat (first | (with_reducible first | exact HW.out | apply below_alloc | apply pw_below_drewN | apply below_drew1) | exact HW.out))) : wr.heap.size ≤ gv)); have n0_ := Aside0.mk (below_step (by repeat (first | (with_reducible first | exact HW.out | apply below_alloc | apply pw_below_drewN | apply below_drew1) | exact HW.out)) hb); clear HW; have HW := n0_; clear n0_; have BV := Aside0.mk hbv; have hcz0 : w3.cell? ⟨gv, 0, none⟩ = some (.int .i64 0) := (blk_cell hbv 0).trans rfl; have hcz1 : w3.cell? ⟨gv, 1, none⟩ = some (.int .i64 0) := (blk_cell hbv 1).trans rfl; have hcz2 : w3.cell? ⟨gv, 2, none⟩ = some (.int .i64 0) := (blk_cell hbv 2).trans rfl; have hcz3 : w3.cell? ⟨gv, 3, none⟩ = some (.int .i64 0) := (blk_cell hbv 3).trans rfl; have hfz0 := blk_frozen hbv 0; have hfz1 := blk_frozen hbv 1; have hfz2 := blk_frozen hbv 2; have hfz3 := blk_frozen hbv 3; clear hb hg hbv) | ((with_reducible refine gate_store (t := 37) (p := 7) rfl ?_); refine store_event (t := 37) (p := 7) (v := ?vo) (w1 := ((((w3.setCell ⟨gv, 0, none⟩ (.int .i64 y.f0)).setCell ⟨gv, 1, none⟩ (.int .i64 y.f1)).setCell ⟨gv, 2, none⟩ (.int .i64 y.f2)).setCell ⟨gv, 3, none⟩ (.int .i64 y.f3))) ?hg ?ho ?hn ?hr ?_; (case ho => rfl); (case hg => rfl); (case hn => rfl); (case hr => first | (go_simp; done) | (go_simp; rfl)); intro w4 hw; have n0_ : Aside0 (Below wr.heap.size wr w4) := ⟨by rw [hw]; exact below_set (below_set (below_set (below_set HW.out GV.out) GV.out) GV.out) GV.out⟩; have n1_ : Aside0 (w4.heap[gv]? = some (.cells #[.int .i64 y.f0, .int .i64 y.f1, .int .i64 y.f2, .int .i64 y.f3] 37 (0, 0))) := ⟨by rw [hw]; exact blk_put (blk_put (blk_put (blk_put BV.out 0 _ rfl) 1 _ rfl) 2 _ rfl) 3 _ rfl⟩; clear HW; clear BV; have HW := n0_; have BV := n1_; clear n0_ n1_; clear hcz0 hcz1 hcz2 hcz3 hfz0 hfz1 hfz2 hfz3 hw; have hcv0 : w4.cell? ⟨gv, 0, none⟩ = some (.int .i64 y.f0) := (blk_cell BV.out 0).trans rfl; have hcv1 : w4.cell? ⟨gv, 1, none⟩ = some (.int .i64 y.f1) := (blk_cell BV.out 1).trans rfl; have hcv2 : w4.cell? ⟨gv, 2, none⟩ = some (.int .i64 y.f2) := (blk_cell BV.out 2).trans rfl; have hcv3 : w4.cell? ⟨gv, 3, none⟩ = some (.int .i64 y.f3) := (blk_cell BV.out 3).trans rfl) | (go_at_fn 54; (refine (vo_pred a1 gb y _ ?hb).mono ?_); (case hb => (with_reducible repeat (first | refine blk_drewN ?_ _ | refine blk_drew ?_ | refine blk_alloc ?_ _)); exact blk_below HX.out HW.out); (rw [hq]); rintro e w5 ⟨rfl, hb⟩; have n0_ := Aside0.mk (below_step (by repeat (first | (with_reducible first | exact HW.out | apply below_alloc | apply pw_below_drewN | apply below_drew1) | exact HW.out)) hb); have n1_ := Aside0.mk (blk_below (by (with_reducible repeat (first | refine blk_drewN ?_ _ | refine blk_drew ?_ | refine blk_alloc ?_ _)); exact BV.out) hb); clear HW; clear BV; have HW := n0_; have BV := n1_; clear n0_ n1_; clear hcv0 hcv1 hcv2 hcv3 hb; have hcv0 : w5.cell? ⟨gv, 0, none⟩ = some (.int .i64 y.f0) := (blk_cell BV.out 0).trans rfl; have hcv1 : w5.cell? ⟨gv, 1, none⟩ = some (.int .i64 y.f1) := (blk_cell BV.out 1).trans rfl; have hcv2 : w5.cell? ⟨gv, 2, none⟩ = some (.int .i64 y.f2) := (blk_cell BV.out 2).trans rfl; have hcv3 : w5.cell? ⟨gv, 3, none⟩ = some (.int .i64 y.f3) := (blk_cell BV.out 3).trans rfl; have n2_ := Aside0.mk (Kd.R_below HO.out HW.out); clear HO; have HO := n2_; clear n2_; obtain ⟨ce, hclE, hME, hccE, hfrE⟩ := Kd.R_elem HO.out z37 i HRI.out.1 HRI.out.2; obtain rfl := k37_openM hME; have HP := Kd.R_seg (okp := fun _ => False) HO.out i HRI.out.1 HRI.out.2 (seg := [.int .i64 y.f0, .int .i64 y.f1, .int .i64 y.f2, .int .i64 y.f3]) (j := 0) hclE hccE (show 4 ≤ 4 from by decide) (x' := y) (k37_mkM _ _ _ y) (fun _ hk => False.elim hk); have hxe0 := hccE 0 _ rfl; have hxe1 := hccE 1 _ rfl; have hxe2 := hccE 2 _ rfl; have hxe3 := hccE 3 _ rfl; have hfe0 := hfrE 0; have hfe1 := hfrE 1; have hfe2 := hfrE 2; have hfe3 := hfrE 3; (try simp only [show (k37).sz = 4 from rfl, Nat.mul_one, Nat.add_zero] at hxe0 hxe1 hxe2 hxe3 hfe0 hfe1 hfe2 hfe3); clear hclE hccE hfrE hME))
          go_roundg (l.length - (j + 1).toNat)
          case measure => have := HG.out; have := HL.out; omega
          case rel =>
            have g := HG.out
            have g2 := HL.out
            have g3 := HRI.out
            have ew : wrap64 (j + 1) = j + 1 := by unfold wrap64; omega
            have ew2 : wrap64 (i + 1) = i + 1 := by unfold wrap64; omega
            refine ⟨x.set i.toNat y, wrap64 (i + 1), wrap64 (j + 1), (by first | rfl | (simp; done) | (simp [*]; done)), (by first | rfl | (simp; done) | (simp [*]; done)), ⟨by omega, by omega, by omega⟩, ⟨?_⟩, ⟨HP.1⟩, ⟨blk_far (blk_far (blk_far (blk_far (blk_below HX.out HW.out) NE.out _) NE.out _) NE.out _) NE.out _⟩, ⟨((((below_then HB.out BR.out HW.out).setCell GB.out _).setCell GB.out _).setCell GB.out _).setCell GB.out _⟩, ⟨Nat.le_trans BR.out (Nat.le_trans (below_size HW.out) (Nat.le_of_eq (setCells_same go [.int .i64 y.f0, .int .i64 y.f1, .int .i64 y.f2, .int .i64 y.f3] (i.toNat * 4) w5).2.2.2.symm))⟩⟩
            rw [ew, ew2, show (j + 1).toNat = j.toNat + 1 by omega, show (i + 1).toNat = i.toNat + 1 by omega]
            obtain ⟨hj, hy⟩ := HY.out
            have hq2 : notV a1 l[j.toNat] = false := by rw [← hy]; exact hq
            have := HI.out.keep hj hq2
            rw [← hy] at this
            exact this
      · have hje : j.toNat = l.length := by have := HG.out; have := HI.out.le; omega
        have hI := HI.out
        rw [hje] at hI
        have hb0 : decide (j < (l.length : Int)) = false := decide_eq_false hlt
        obtain ⟨i, rfl⟩ := Int.eq_ofNat_of_zero_le HG.out.1
        rw [Int.toNat_natCast] at hI
        have hi : i < l.length := hI.lt
        have hil : i ≤ l.length := Nat.le_of_lt hi
        have hic : i ≤ c := by have := HK.out.2; omega
        have hne : ¬ c = i := by have := HK.out.2; omega
        have hcl : ∀ ty, (Builtin.clear_ #[25] ty #[.slice (some ⟨go, i * 4, none⟩) (l.length - i) (c - i)]).run Try.prog wr = .ok (.tuple #[]) (wr.setCells go (i * 4) (List.replicate ((l.length - i) * 4) (.int .i64 0))) :=
          fun ty => run_clear4 wr ty go (i * 4) (l.length - i) (c - i) (by omega) (fun q hq => (R_some4 HO.out (i * 4 + q) (by omega)).1) (fun q hq => (R_some4 HO.out (i * 4 + q) (by omega)).2)
        have HT := R_clear4 (l.length - i) i wr x (by omega) HO.out
        have HT2 := Kd.R_take (m := i) HT (by rw [List.length_append, List.length_take, List.length_replicate, hxl]; omega)
        have ex : (x.take i ++ List.replicate (l.length - i) z37).take i = l.filter (fun y => !notV a1 y) := by
          rw [List.take_append_of_le_length (by rw [List.length_take, hxl]; omega), List.take_take, Nat.min_self, hI.done]
        rw [ex] at HT2
        have HT3 := Aside0.mk HT2
        clear HT HT2 ex hI
        go_wp2
        go_ret
        exact ⟨_, rfl, HT3.out, below_cells GB.out _ _ _ HB.out⟩
  · have e1 : voIdx a1 l = -1 := by unfold voIdx; rw [if_neg hk]
    rw [e1] at hIF
    have ef := vo_none hk
    have HO := Aside0.mk HR
    have BS := Aside0.mk hbs
    have hm1 : ((-1 : Int) == -1) = true := rfl
    clear HR hbox hC hcap hk e1 hbs
    go_enter Try.func52, Try.ntmps52
    go_wp2_with (go_at_call 58; refine hIF.mono ?_; rintro e w1 ⟨rfl, hb1⟩)
    go_ret
    refine ⟨_, rfl, ?_, hb1.mono BS.out⟩
    rw [ef]
    exact Kd.R_below HO.out hb1
def impl_VoiceOf.f (l0 : List S37) (a1 : Int) : Option (List S37) := if l0.length < 4398046511104 then some (l0.filter (fun y => !notV a1 y)) else none
set_option maxHeartbeats 8000000 in
set_option maxRecDepth 100000 in
theorem impl_VoiceOf.calls (A0 : Option Addr) (c0 : Nat) (l0 : List (S37)) (a1 : Int) (r : List (S37)) (w : World) (hr0 : Kd.C k37 w A0 l0.length l0) (hc0 : l0.length ≤ c0) (h : impl_VoiceOf.f l0 a1 = some r) :
    Calls Try.prog 23 #[.slice A0 l0.length c0, .int .i64 a1] w fun e w' => ∃ v0_ : Value, e = .returned (v0_) ∧ Kd.R k37 37 w' w.heap.size (fun _ => True) v0_ r ∧ Below w.heap.size w w' := by
  have HR0 := Aside0.mk hr0
  have HC0 := Aside0.mk hc0
  clear hr0 hc0
  have HW := Aside0.mk (Below.refl w.heap.size w)
  unfold impl_VoiceOf.f at h
  by_cases hl : l0.length < 4398046511104
  · rw [if_pos hl] at h
    obtain rfl := Option.some.inj h
    have HL := Aside0.mk hl
    have hcl : impl_Event_53.f l0 = some l0 := by unfold impl_Event_53.f; simp only [Option.bind_some, List.length_nil, List.nil_append]; rw [if_pos (by omega)]
    have HCL := Aside0.mk hcl
    clear h hl hcl
    go_enter Try.func23, Try.ntmps23
    go_wp2_with (first
      | ((with_reducible refine gate_dst (N := 3) rfl ?_); refine box_event ?hg (N := 3) ?hd (cs := #[.int .i64 a1]) (t := 3) ?hr ?_; (case hd => rfl); (case hg => rfl); (case hr => first | (go_simp; done) | (go_simp; rfl)); intro gb hg w3 hbv hb; have n0_ := Aside0.mk (below_step (by repeat (first | (with_reducible first | exact HW.out | apply below_alloc | apply pw_below_drewN | apply below_drew1) | exact HW.out)) hb); clear HW; have HW := n0_; clear n0_; have BV := Aside0.mk hbv; clear hb hg hbv)
      | ((with_reducible refine gate_callee (f := 53) rfl ?_); refine goesL_ (some 6) rfl rfl Try.func53 (by kernel_rfl) rfl #[.slice A0 l0.length c0] rfl (by (try simp only [List.map_toArray, List.map_cons, List.map_nil]); first | done | rfl | (simp only [List.length_drop, List.length_take]; rfl)) ?_; (with_reducible refine (impl_Event_53.calls _ _ l0 l0 _ ?side1 ?side2 HCL.out).mono ?_); (case side1 => repeat (first | exact (Kd.C_below HR0.out HW.out) | (with_reducible refine Kd.C_alloc ?_ _) | (with_reducible refine Kd.C_drewN ?_ _) | (with_reducible refine Kd.C_drew ?_))); (case side2 => exact HC0.out); rintro e w5 ⟨v5, rfl, ho, hb⟩; refine ⟨_, rfl, ?_⟩; have n0_ := Aside0.mk (Kd.R_lower ho (below_size (by repeat (first | (with_reducible first | exact HW.out | apply below_alloc | apply pw_below_drewN | apply below_drew1) | exact HW.out)))); have n1_ := Aside0.mk (blk_below (by (with_reducible repeat (first | refine blk_drewN ?_ _ | refine blk_drew ?_ | refine blk_alloc ?_ _)); exact BV.out) hb); have n2_ := Aside0.mk (below_step (by repeat (first | (with_reducible first | exact HW.out | apply below_alloc | apply pw_below_drewN | apply below_drew1) | exact HW.out)) hb); clear HW; clear BV; have HO := n0_; have BV := n1_; have HW := n2_; clear n0_ n1_ n2_; clear hb ho)
      | (go_at_call 52; (refine (vo_delete a1 gb w.heap.size v5 l0 _ ?s1 ?s2 ?s3 ?s4).mono ?_); (case s1 => (with_reducible repeat (first | apply Kd.R_alloc | apply Kd.R_drewN | apply Kd.R_drew)); exact HO.out); (case s2 => (with_reducible repeat (first | refine blk_drewN ?_ _ | refine blk_drew ?_ | refine blk_alloc ?_ _)); exact BV.out); (case s3 => have := HL.out; omega); (case s4 => exact below_size (by repeat (first | (with_reducible first | exact HW.out | apply below_alloc | apply pw_below_drewN | apply below_drew1) | exact HW.out))); rintro e w7 ⟨v7, rfl, ho7, hb7⟩; have HO7 := Aside0.mk ho7; have HB7 := Aside0.mk (Below.trans (by repeat (first | (with_reducible first | exact HW.out | apply below_alloc | apply pw_below_drewN | apply below_drew1) | exact HW.out)) hb7); clear ho7 hb7))
    go_ret
    exact ⟨_, by first | rfl | (simp; done), by (with_reducible repeat (first | apply Kd.R_alloc | apply Kd.R_drewN | apply Kd.R_drew)); exact HO7.out, by repeat (first | (with_reducible first | exact HB7.out | apply below_alloc | apply pw_below_drewN | apply below_drew1) | exact HB7.out)⟩
  · rw [if_neg hl] at h
    exact absurd h (by simp)

end Go.Proofs.Ytmacgllblbeegaa.F
