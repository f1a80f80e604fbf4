/- FnExactTickAt, part 6 of 6: texts of the claim, joined into one file. -/
import Derived.Test.YtinbdgngpkbgcaaZFnExactTickAt5
import Derived.Deep.Slices
import Derived.Deep.Fields
import Derived.ChangeSame
import Derived.ChangeArms
import Derived.Lib.SmallJoins
import Derived.OpenShut
import Derived.Test.YtinbdgngpkbgcaaRows
import Derived.WalkKit
import Derived.ProofKit
import Derived.ShutString
import Derived.ChangeOld
import Derived.Below
import Derived.Carry
import Derived.SizedLaws

namespace Go.Proofs.Ytinbdgngpkbgcaa.Opened
open Go.ChangeShapes Go.WideShapes Go.Deep Go.RowKit Go.Joins Go.Proofs.YtinbdgngpkbgcaaW.PrintWords
set_option linter.unusedVariables false
def I64 (n : Int) : Prop := -9223372036854775808 ≤ n ∧ n ≤ 9223372036854775807
theorem i64_of {n : Int} (h : (Lit.int .i64 n).wf = true) : I64 n := bounds_i64 h
section
variable {H : Type} {enc : TypeId × Value → H} {P : Program} {w : World} {base : Nat} {spare : Nat → Bool} {held : Bool}
def Fits (enc : TypeId × Value → H) (P : Program) (w : World) (base : Nat) (spare : Nat → Bool) (held : Bool) (fs : Array Field) (vs : List Value) : Prop :=
  vs.length = fs.size ∧ ∀ (j : Nat) (f : Field) (v : Value), fs[j]? = some f → vs[j]? = some v → ∃ (n : Nat) (y : DataW H × List MemPlace), DataW.trod enc P w base spare held n f.type [v] = some y
theorem Fits.int {fs : Array Field} {vs : List Value} (h : Fits enc P w base spare held fs vs) {j : Nat} {f : Field} (hf : fs[j]? = some f) (ht : P.underlying f.type = some (.int .i64)) : ∃ n, vs[j]? = some (.int .i64 n) ∧ I64 n := by
  have hj : j < vs.length := by rw [h.1]; exact (Array.getElem?_eq_some_iff.1 hf).1
  obtain ⟨m, y, hy⟩ := h.2 j f _ hf (List.getElem?_eq_getElem hj)
  obtain ⟨n, e, _, hw⟩ := DataW.trod_int ht hy
  simp only [List.cons.injEq, and_true] at e
  exact ⟨n, by rw [List.getElem?_eq_getElem hj, e], i64_of hw⟩
theorem Fits.bool {fs : Array Field} {vs : List Value} (h : Fits enc P w base spare held fs vs) {j : Nat} {f : Field} (hf : fs[j]? = some f) (ht : P.underlying f.type = some .bool) : ∃ b, vs[j]? = some (.bool b) := by
  have hj : j < vs.length := by rw [h.1]; exact (Array.getElem?_eq_some_iff.1 hf).1
  obtain ⟨m, y, hy⟩ := h.2 j f _ hf (List.getElem?_eq_getElem hj)
  obtain ⟨n, e, _⟩ := DataW.trod_bool ht hy
  simp only [List.cons.injEq, and_true] at e
  exact ⟨n, by rw [List.getElem?_eq_getElem hj, e]⟩
theorem list2 {α : Type} {l : List α} {a b : α} (hl : l.length = 2) (h0 : l[0]? = some a) (h1 : l[1]? = some b) : l = [a, b] := by
  match l, hl with
  | [x, y], _ => simp at h0 h1; rw [h0, h1]
theorem list_of {α : Type} (Q : Nat → α → Prop) : ∀ n : Nat, (∀ i, i < n → ∃ x, Q i x) → ∃ l : List α, l.length = n ∧ ∀ (j : Nat) (p : α), l[j]? = some p → Q j p
  | 0, _ => ⟨[], rfl, fun j p h => by simp at h⟩
  | n + 1, h => by
    obtain ⟨l, hl, hq⟩ := list_of Q n (fun i hi => h i (by omega))
    obtain ⟨x, hx⟩ := h n (by omega)
    refine ⟨l ++ [x], by simp [hl], fun j p hj => ?_⟩
    rcases Nat.lt_or_ge j n with hn | hn
    · rw [List.getElem?_append_left (by omega)] at hj
      exact hq j p hj
    · have hj' : j = n := by
        have := (List.getElem?_eq_some_iff.1 hj).1
        rw [List.length_append, List.length_singleton] at this
        omega
      subst hj'
      have : x = p := by
        rw [List.getElem?_append_right (by omega), hl] at hj
        simpa using hj
      rw [← this]
      exact hx
theorem open_rows {α : Type} (d : Kd α) (Good : α → Prop) {t e : TypeId} {fs : Array Field} {a : Option Addr} {len cap : Nat} {dd : DataW H} {ps : List MemPlace}
    (ht : P.underlying t = some (.slice e)) (he : P.underlying e = some (.struct fs)) (hone : oneCellFields P fs = true) (hC : P.cellsOf e = fs.size) (hsz : d.sz = fs.size)
    (hk : ∀ vs, Fits enc P w base spare held fs vs → ∃ x, Good x ∧ d.K w x vs)
    (h : DataW.Trod enc P w base spare held t (.slice a len cap) dd ps) : ∃ l : List α, l.length = len ∧ len ≤ cap ∧ d.C w a len l ∧ ∀ x ∈ l, Good x := by
  obtain ⟨fuel, hf⟩ := h
  rcases open_slice ht hf with ⟨hcs, _⟩ | ⟨x, l, c, m, n, D, Pl, hcs, _, hl, hm, hmm, hx, hi⟩
  · simp [Value.cells] at hcs
    obtain ⟨rfl, rfl, rfl⟩ := hcs
    exact ⟨[], rfl, Nat.le_refl _, Kd.C_nil d w, by simp⟩
  · simp [Value.cells] at hcs
    obtain ⟨rfl, rfl, rfl⟩ := hcs
    have hlm : len ≤ m := by rw [hmm]; split <;> omega
    obtain ⟨l, hll, hq⟩ := list_of (fun i (y : α) => Good y ∧ ∃ c : List Value, c.length = d.sz ∧ d.K w y c ∧ ∀ j u, c[j]? = some u → w.cell? (x.add (i * d.sz + j)) = some u) len (by
      intro i hil
      obtain ⟨cs', hc, ht'⟩ := hi i (by omega)
      rw [hC] at hc
      obtain ⟨ys, n', hn', hy, hlen, hyl, hfld⟩ := DataW.trod_struct he ht'
      obtain ⟨_, hcl, hat⟩ := World.cells?_some hc
      have hlen' : cs'.length = fs.size := hcl
      obtain ⟨y, hg, hK⟩ := hk cs' ⟨hlen', fun j f v hj hv => by
        obtain ⟨ho, hkk⟩ := hone_of hone j f hj
        have hjl : j < fs.size := (Array.getElem?_eq_some_iff.1 hj).1
        have h1 := hfld j f hj
        rw [ho, hkk] at h1
        have hone' : (cs'.drop j).take 1 = [v] := by
          rw [List.drop_eq_getElem_cons (by omega)]
          have : cs'[j]'(by omega) = v := by
            rw [List.getElem?_eq_getElem (by omega)] at hv
            exact Option.some.inj hv
          rw [this]
          rfl
        rw [hone'] at h1
        exact ⟨_, _, h1.trans (List.getElem?_eq_getElem (by omega))⟩⟩
      refine ⟨y, hg, cs', by rw [hlen', hsz], hK, fun j u hu => ?_⟩
      have hjl : j < fs.size := by
        have := (List.getElem?_eq_some_iff.1 hu).1
        omega
      have hcell := hat j hjl
      rw [hsz, ← Go.Deep.add_add, hcell]
      exact hu)
    refine ⟨l, hll, hl, ⟨hll, ?_, fun _ => ⟨x, rfl, fun j p hj => (hq j p hj).2⟩⟩, fun y hy => ?_⟩
    · unfold maxLen at hm
      omega
    · obtain ⟨j, hj⟩ := List.getElem?_of_mem hy
      exact (hq j y hj).1
end
end Go.Proofs.Ytinbdgngpkbgcaa.Opened

namespace Go.Proofs.Ytinbdgngpkbgcaa.F
open Go.ChangeShapes Go.WideShapes Go.Deep Go.RowKit Go.Joins Go.Proofs.YtinbdgngpkbgcaaW.PrintWords Go.Proofs.Ytinbdgngpkbgcaa.Opened
set_option linter.unusedVariables false
def Good76 (x : S76) : Prop := I64 x.f0 ∧ I64 x.f1
theorem hk76 {H : Type} {enc : TypeId × Value → H} {w : World} {base : Nat} {spare : Nat → Bool} {held : Bool} {fs : Array Field} (hfs : Try.prog.underlying 76 = some (.struct fs)) (vs : List Value) (h : Fits enc Try.prog w base spare held fs vs) : ∃ x : S76, Good76 x ∧ k76.K w x vs := by
  rw [Try.underlying76] at hfs
  obtain rfl := TypeDesc.struct.inj (Option.some.inj hfs)
  obtain ⟨n0, e0, g0⟩ := h.int (j := 0) rfl Try.underlying3
  obtain ⟨n1, e1, g1⟩ := h.int (j := 1) rfl Try.underlying3
  obtain rfl := list2 (by rw [h.1]; rfl) e0 e1
  exact ⟨⟨n0, n1⟩, ⟨g0, g1⟩, k76_mk w ⟨n0, n1⟩⟩
end Go.Proofs.Ytinbdgngpkbgcaa.F

namespace Go.Proofs.Ytinbdgngpkbgcaa.F
open Go.RowKit Go.Proofs.Ytinbdgngpkbgcaa.Opened Go.Proofs.YtinbdgngpkbgcaaW.PrintWords Go.Proofs.YtinbdgngpkbgcaaW.PrintLast
set_option linter.unusedVariables false
set_option linter.unusedSimpArgs false
theorem w1 {n m : Nat} (h : n < m) (hm : m ≤ 9223372036854775807) : wrap64 ((n : Int) + 1) = ((n + 1 : Nat) : Int) := by unfold wrap64; omega
theorem wid {x : Int} (h0 : -9223372036854775808 ≤ x) (h1 : x ≤ 9223372036854775807) : wrap64 x = x := by unfold wrap64; omega
theorem bind_left {α β : Type} {a a' : Option α} (f : α → Option β) (h : a = a') : a.bind f = a'.bind f := by rw [h]
theorem take_next {α : Type} {l : List α} {n : Nat} (h : n < l.length) : l.take (n + 1) = l.take n ++ [l[n]] := by rw [List.take_succ_eq_append_getElem h]
theorem set_take {α : Type} (acc : List α) (n : Nat) (v : α) (h : n < acc.length) : (acc.set n v).take (n + 1) = acc.take n ++ [v] := by
  rw [List.take_succ_eq_append_getElem (by simpa using h), List.take_set, List.set_eq_of_length_le (by rw [List.length_take]; omega)]
  simp
theorem rdT74 (xs : List S74) (n : Nat) (h : n < xs.length) : rd_T74 xs (n : Int) = xs[n] := by simp [rd_T74, h]
theorem rdT76 (xs : List S76) (n : Nat) (h : n < xs.length) : rd_T76 xs (n : Int) = xs[n] := by simp [rd_T76, h]
end Go.Proofs.Ytinbdgngpkbgcaa.F

namespace Go.Proofs.Ytinbdgngpkbgcaa.F
open Go.RowKit Go.Proofs.Ytinbdgngpkbgcaa.Opened Go.Proofs.YtinbdgngpkbgcaaW.PrintWords Go.Proofs.YtinbdgngpkbgcaaW.PrintLast Go.Proofs.YtinbdgngpkbgcaaW.PrintMore
set_option linter.unusedVariables false
set_option linter.unusedSimpArgs false
theorem spec_l1In.ok (a b c : Int) : spec_l1In.f a b c = some (decide (b ≤ a ∧ a ≤ c)) := by
  unfold spec_l1In.f
  by_cases h : b ≤ a <;> simp [h]
theorem impl_InRange.ok (a b c : Int) : impl_InRange.f a b c = some (decide (b ≤ a ∧ a ≤ c)) := by
  unfold impl_InRange.f
  by_cases h : b ≤ a <;> simp [h]
end Go.Proofs.Ytinbdgngpkbgcaa.F

namespace Go.Proofs.Ytinbdgngpkbgcaa.F
open Go.RowKit Go.Proofs.Ytinbdgngpkbgcaa.Opened Go.Proofs.YtinbdgngpkbgcaaW.PrintWords Go.Proofs.YtinbdgngpkbgcaaW.PrintLast Go.Proofs.YtinbdgngpkbgcaaW.PrintMore
set_option linter.unusedVariables false
set_option linter.unusedSimpArgs false
abbrev Tmp := S74
def okT : Option Tmp → Tmp → Prop
  | none, e => (20 ≤ e.f1 ∧ e.f1 ≤ 300) ∧ (0 ≤ e.f0 ∧ e.f0 ≤ 2000) ∧ e.f0 = 0
  | some q, e => (20 ≤ e.f1 ∧ e.f1 ≤ 300) ∧ (0 ≤ e.f0 ∧ e.f0 ≤ 2000) ∧ q.f0 < e.f0
instance (p : Option Tmp) (e : Tmp) : Decidable (okT p e) := by cases p <;> (unfold okT; infer_instance)
def tpB : Option Tmp → List Tmp → Bool
  | _, [] => true
  | p, e :: l => decide (okT p e) && tpB (some e) l
def isTempoB (l : List Tmp) : Bool := tpB none l && decide (1 ≤ (l.length : Int) ∧ (l.length : Int) ≤ 8)
def prevT (l : List Tmp) (n : Nat) : Option Tmp := if n = 0 then none else l[n - 1]?
theorem prevT_next (l : List Tmp) (n : Nat) (h : n < l.length) : prevT l (n + 1) = some l[n] := by simp [prevT, h]
theorem prevT_pos (l : List Tmp) (n : Nat) (h0 : n ≠ 0) (h : n - 1 < l.length) : prevT l n = some l[n - 1] := by simp [prevT, h0, h]
theorem spec_IsTempo.loop (l : List Tmp) (hm : l.length ≤ 9223372036854775807) : ∀ (d k n : Nat), l.length - n ≤ d → d < k → spec_IsTempo.l0 k l (n : Int) = some (tpB (prevT l n) (l.drop n) && decide (1 ≤ (l.length : Int) ∧ (l.length : Int) ≤ 8)) := by
  intro d
  induction d with
  | zero =>
    intro k n hd hk
    obtain ⟨k, rfl⟩ : ∃ m, k = m + 1 := ⟨k - 1, by omega⟩
    simp only [spec_IsTempo.l0, spec_l1In.ok, Option.bind_some]
    rw [if_neg (by omega), List.drop_of_length_le (by omega)]
    simp [tpB]
  | succ d ih =>
    intro k n hd hk
    obtain ⟨k, rfl⟩ : ∃ m, k = m + 1 := ⟨k - 1, by omega⟩
    by_cases h : n < l.length
    · simp only [spec_IsTempo.l0, spec_l1In.ok, Option.bind_some]
      rw [if_pos (by omega), if_pos (by omega), rdT74 l n h, w1 h hm, List.drop_eq_getElem_cons h]
      have ih' := ih k (n + 1) (by omega) (by omega)
      rw [prevT_next l n h] at ih'
      by_cases c1 : 20 ≤ l[n].f1 ∧ l[n].f1 ≤ 300
      · by_cases c2 : 0 ≤ l[n].f0 ∧ l[n].f0 ≤ 2000
        · rw [if_pos (by simpa using c1), if_pos (by simpa using c2)]
          by_cases c3 : n = 0
          · subst c3
            by_cases c4 : l[0].f0 = 0
            · rw [if_pos (by omega), if_pos c4, if_neg (by omega), ih']
              simp [prevT, tpB, okT, c1, c4]
            · rw [if_pos (by omega), if_neg c4]
              simp [prevT, tpB, okT, c4]
          · have e : wrap64 ((n : Int) - 1) = ((n - 1 : Nat) : Int) := by unfold wrap64; omega
            rw [if_neg (by omega), if_pos (by omega), e, if_pos (by omega), if_pos (by omega), rdT74 l (n - 1) (by omega), prevT_pos l n c3 (by omega), ih']
            by_cases c4 : l[n - 1].f0 ≥ l[n].f0
            · rw [if_pos c4]
              have : ¬ l[n - 1].f0 < l[n].f0 := by omega
              simp [tpB, okT, this]
            · rw [if_neg c4]
              have : l[n - 1].f0 < l[n].f0 := by omega
              simp [tpB, okT, c1, c2, this]
        · rw [if_pos (by simpa using c1), if_neg (by simpa using c2)]
          cases prevT l n <;> simp [tpB, okT, c2]
      · rw [if_neg (by simpa using c1)]
        cases prevT l n <;> simp [tpB, okT, c1]
    · simp only [spec_IsTempo.l0, spec_l1In.ok, Option.bind_some]
      rw [if_neg (by omega), List.drop_of_length_le (by omega)]
      simp [tpB]
theorem spec_IsTempo.ok (l : List Tmp) (hm : l.length ≤ 9223372036854775807) (k : Nat) (hk : l.length < k) : spec_IsTempo.f k l = some (isTempoB l) := by
  unfold spec_IsTempo.f
  exact spec_IsTempo.loop l hm l.length k 0 (by omega) hk
theorem impl_IsTempo.loop (l : List Tmp) (hm : l.length ≤ 9223372036854775807) : ∀ (d k n : Nat), l.length - n ≤ d → d < k → (∀ q, prevT l n = some q → 0 ≤ q.f0) → impl_IsTempo.l0 k l l l.length (n : Int) = some (tpB (prevT l n) (l.drop n) && decide (1 ≤ (l.length : Int) ∧ (l.length : Int) ≤ 8)) := by
  intro d
  induction d with
  | zero =>
    intro k n hd hk hp
    obtain ⟨k, rfl⟩ : ∃ m, k = m + 1 := ⟨k - 1, by omega⟩
    simp only [impl_IsTempo.l0, impl_InRange.ok, Option.bind_some]
    rw [if_neg (by omega), List.drop_of_length_le (by omega)]
    simp [tpB]
  | succ d ih =>
    intro k n hd hk hp
    obtain ⟨k, rfl⟩ : ∃ m, k = m + 1 := ⟨k - 1, by omega⟩
    by_cases h : n < l.length
    · simp only [impl_IsTempo.l0, impl_InRange.ok, Option.bind_some]
      rw [if_pos (by omega), if_pos (by omega), if_pos (by omega), rdT74 l n h, w1 h hm, List.drop_eq_getElem_cons h]
      have ih' := ih k (n + 1) (by omega) (by omega)
      rw [prevT_next l n h] at ih'
      by_cases c3 : n = 0
      · subst c3
        rw [if_pos (by omega)]
        by_cases c4 : l[0].f0 = 0
        · rw [if_pos c4, if_neg (by omega), if_neg (by omega)]
          by_cases c1 : (20 : Int) ≤ l[0].f1 ∧ l[0].f1 ≤ (300 : Int)
          · rw [if_pos (by simpa using c1), ih' (fun q hq => by obtain rfl := Option.some.inj hq; omega)]
            simp [prevT, tpB, okT, c1, c4]
          · rw [if_neg (by simpa using c1)]
            simp [prevT, tpB, okT, c1]
        · rw [if_neg c4]
          simp [prevT, tpB, okT, c4]
      · have e : wrap64 ((n : Int) - 1) = ((n - 1 : Nat) : Int) := by unfold wrap64; omega
        rw [if_neg (by omega), if_pos (by omega), e, if_pos (by omega), if_pos (by omega), rdT74 l (n - 1) (by omega), prevT_pos l n c3 (by omega)]
        have hq := hp _ (prevT_pos l n c3 (by omega))
        by_cases c4 : l[n - 1].f0 ≥ l[n].f0
        · rw [if_pos c4]
          have : ¬ l[n - 1].f0 < l[n].f0 := by omega
          simp [tpB, okT, this]
        · have c5 : l[n - 1].f0 < l[n].f0 := by omega
          rw [if_neg c4]
          by_cases c6 : l[n].f0 > 2000
          · rw [if_pos c6]
            have : ¬ (0 ≤ l[n].f0 ∧ l[n].f0 ≤ 2000) := by omega
            simp [tpB, okT, this]
          · rw [if_neg c6]
            by_cases c1 : 20 ≤ l[n].f1 ∧ l[n].f1 ≤ 300
            · rw [if_pos (by simpa using c1), ih' (fun q hq' => by obtain rfl := Option.some.inj hq'; omega)]
              have c2 : 0 ≤ l[n].f0 ∧ l[n].f0 ≤ 2000 := by omega
              simp [tpB, okT, c1, c2, c5]
            · rw [if_neg (by simpa using c1)]
              simp [tpB, okT, c1]
    · simp only [impl_IsTempo.l0, impl_InRange.ok, Option.bind_some]
      rw [if_neg (by omega), List.drop_of_length_le (by omega)]
      simp [tpB]
theorem impl_IsTempo.ok (l : List Tmp) (hm : l.length ≤ 9223372036854775807) (k : Nat) (hk : l.length < k) : impl_IsTempo.f k l = some (isTempoB l) := by
  unfold impl_IsTempo.f
  exact impl_IsTempo.loop l hm l.length k 0 (by omega) hk (fun q hq => by simp [prevT] at hq)
end Go.Proofs.Ytinbdgngpkbgcaa.F

namespace Go.Proofs.Ytinbdgngpkbgcaa.F
open Go.RowKit Go.Proofs.Ytinbdgngpkbgcaa.Opened Go.Proofs.YtinbdgngpkbgcaaW.PrintWords Go.Proofs.YtinbdgngpkbgcaaW.PrintLast Go.Proofs.YtinbdgngpkbgcaaW.PrintMore
set_option linter.unusedVariables false
set_option linter.unusedSimpArgs false
def gI (n d : Int) : Int := ((Nat.gcd n.natAbs d.natAbs : Nat) : Int)
theorem gI_pos (n d : Int) (hd : 0 < d) : 0 < gI n d := by
  have : 0 < Nat.gcd n.natAbs d.natAbs := Nat.gcd_pos_of_pos_right _ (by omega)
  unfold gI
  omega
theorem gcd_step (a b : Nat) : Nat.gcd b (a % b) = Nat.gcd a b := by rw [Nat.gcd_comm b (a % b), ← Nat.gcd_rec, Nat.gcd_comm]
theorem tmod_nat (a b : Nat) : Int.tmod (a : Int) (b : Int) = ((a % b : Nat) : Int) := rfl
theorem mulB {a b : Int} {A B : Nat} (ha : a.natAbs ≤ A) (hb : b.natAbs ≤ B) : (a * b).natAbs ≤ A * B := by
  rw [Int.natAbs_mul]
  exact Nat.mul_le_mul ha hb
theorem wN {x : Int} (h : x.natAbs ≤ 9223372036854775807) : wrap64 x = x := wid (by omega) (by omega)
theorem tdivB (a b : Int) : (Int.tdiv a b).natAbs ≤ a.natAbs := by
  rw [Int.natAbs_tdiv]
  exact Nat.div_le_self _ _
theorem wT {a b : Int} (h : a.natAbs ≤ 9223372036854775807) : wrap64 (Int.tdiv a b) = Int.tdiv a b := wN (Nat.le_trans (tdivB a b) h)
theorem mxAbs {a : Int} (h : a.natAbs ≤ 9223372036854775807) : mx a (wrap64 (-a)) = (a.natAbs : Int) := by
  unfold mx wrap64
  split <;> omega
theorem spec_l4Gcd.loop : ∀ (m a b k : Nat), b ≤ m → m < k → spec_l4Gcd.l0 k (a : Int) (b : Int) = some ((Nat.gcd a b : Nat) : Int) := by
  intro m
  induction m with
  | zero =>
    intro a b k hb hk
    obtain ⟨k, rfl⟩ : ∃ m, k = m + 1 := ⟨k - 1, by omega⟩
    have : b = 0 := by omega
    subst this
    simp [spec_l4Gcd.l0]
  | succ m ih =>
    intro a b k hb hk
    obtain ⟨k, rfl⟩ : ∃ m, k = m + 1 := ⟨k - 1, by omega⟩
    by_cases h : b = 0
    · subst h
      simp [spec_l4Gcd.l0]
    · have hlt : a % b < b := Nat.mod_lt _ (by omega)
      simp only [spec_l4Gcd.l0]
      rw [if_neg (by omega), tmod_nat, ih b (a % b) k (by omega) (by omega), gcd_step]
theorem impl_divisor.loop : ∀ (m a b k : Nat), b ≤ m → m < k → impl_divisor.l0 k (a : Int) (b : Int) = some ((Nat.gcd a b : Nat) : Int) := by
  intro m
  induction m with
  | zero =>
    intro a b k hb hk
    obtain ⟨k, rfl⟩ : ∃ m, k = m + 1 := ⟨k - 1, by omega⟩
    have : b = 0 := by omega
    subst this
    simp [impl_divisor.l0]
  | succ m ih =>
    intro a b k hb hk
    obtain ⟨k, rfl⟩ : ∃ m, k = m + 1 := ⟨k - 1, by omega⟩
    by_cases h : b = 0
    · subst h
      simp [impl_divisor.l0]
    · have hlt : a % b < b := Nat.mod_lt _ (by omega)
      simp only [impl_divisor.l0]
      rw [if_neg (by omega), tmod_nat, ih b (a % b) k (by omega) (by omega), gcd_step]
theorem spec_l4Gcd.ok (n d : Int) (hd : 0 ≤ d) (k : Nat) (hk : d.natAbs < k) : spec_l4Gcd.f k (n.natAbs : Int) d = some (gI n d) := by
  obtain ⟨m, rfl⟩ := Int.eq_ofNat_of_zero_le hd
  exact spec_l4Gcd.loop m n.natAbs m k (Nat.le_refl m) (by simpa using hk)
theorem spec_l4Gcd.ok' (n d : Int) (hn : 0 ≤ n) (hd : 0 ≤ d) (k : Nat) (hk : d.natAbs < k) : spec_l4Gcd.f k n d = some (gI n d) := by
  rw [← spec_l4Gcd.ok n d hd k hk]
  congr 1
  omega
theorem impl_divisor.ok (n d : Int) (hd : 0 ≤ d) (k : Nat) (hk : d.natAbs < k) : impl_divisor.f k (n.natAbs : Int) d = some (gI n d) := by
  obtain ⟨m, rfl⟩ := Int.eq_ofNat_of_zero_le hd
  exact impl_divisor.loop m n.natAbs m k (Nat.le_refl m) (by simpa using hk)
theorem spec_l4Abs.ok (a : Int) (h : a.natAbs ≤ 9223372036854775807) : spec_l4Abs.f a = some (a.natAbs : Int) := by
  unfold spec_l4Abs.f
  have e := @wN (-a) (by omega)
  rw [e]
  split
  · congr 1
    omega
  · congr 1
    omega
def isRB (n d : Int) : Bool := decide (1 ≤ d ∧ d ≤ 1000000) && (decide (-1000000000 ≤ n ∧ n ≤ 1000000000) && (gI n d == 1))
theorem isRB_b {n d : Int} (h : isRB n d = true) : (1 ≤ d ∧ d ≤ 1000000) ∧ (-1000000000 ≤ n ∧ n ≤ 1000000000) ∧ gI n d = 1 := by
  unfold isRB at h
  simp only [Bool.and_eq_true, decide_eq_true_eq, beq_iff_eq] at h
  exact h
theorem spec_IsRatio.ok (n d : Int) (k : Nat) (hk : 1000000 < k) : spec_IsRatio.f k n d = some (isRB n d) := by
  unfold spec_IsRatio.f isRB
  rw [spec_l1In.ok, spec_l1In.ok]
  simp only [Option.bind_some]
  by_cases c1 : (1 : Int) ≤ d ∧ d ≤ 1000000
  · by_cases c2 : (-1000000000 : Int) ≤ n ∧ n ≤ 1000000000
    · rw [if_pos (by simpa using c1), if_pos (by simpa using c2), spec_l4Abs.ok n (by omega)]
      simp only [Option.bind_some]
      rw [spec_l4Gcd.ok n d (by omega) k (by omega)]
      simp [c1, c2]
    · rw [if_pos (by simpa using c1), if_neg (by simpa using c2)]
      simp only [c2, decide_false, Bool.false_and, Bool.and_false]
  · rw [if_neg (by simpa using c1)]
    simp only [c1, decide_false, Bool.false_and]
theorem impl_IsRatio.ok (n d : Int) (k : Nat) (hk : 1000000 < k) : impl_IsRatio.f k n d = some (isRB n d) := by
  unfold impl_IsRatio.f isRB
  rw [impl_InRange.ok, impl_InRange.ok]
  simp only [Option.bind_some]
  by_cases c1 : (1 : Int) ≤ d ∧ d ≤ 1000000
  · by_cases c2 : (-1000000000 : Int) ≤ n ∧ n ≤ 1000000000
    · rw [if_pos (by simpa using c1), if_pos (by simpa using c2), mxAbs (by omega)]
      rw [impl_divisor.ok n d (by omega) k (by omega)]
      simp [c1, c2]
    · rw [if_pos (by simpa using c1), if_neg (by simpa using c2)]
      simp only [c2, decide_false, Bool.false_and, Bool.and_false]
  · rw [if_neg (by simpa using c1)]
    simp only [c1, decide_false, Bool.false_and]
def noR : Int × Int × Bool := (0, 0, false)
def lowC (n d : Int) : Int × Int × Bool := if isRB (Int.tdiv n (gI n d)) (Int.tdiv d (gI n d)) = true then (Int.tdiv n (gI n d), Int.tdiv d (gI n d), true) else noR
def lowP (n d : Int) : Int × Int × Bool := if d < 0 then lowC (-n) (-d) else (if d = 0 then noR else lowC n d)
theorem lowC_scale (g n d : Int) (hg : 0 < g) : lowC (g * n) (g * d) = lowC n d := by
  have e : gI (g * n) (g * d) = g * gI n d := by
    unfold gI
    rw [Int.natAbs_mul, Int.natAbs_mul, Nat.gcd_mul_left, Int.natCast_mul]
    congr 1
    omega
  unfold lowC
  rw [e, Int.mul_tdiv_mul_of_pos _ _ hg, Int.mul_tdiv_mul_of_pos _ _ hg]
theorem impl_lowest.j0_ok (n d : Int) (hn : n.natAbs ≤ 1000000000000000000) (hd : 0 ≤ d) (hd' : d ≤ 1000000000000000) (k : Nat) (hk : 1000000000000001 < k) : impl_lowest.j0 k n d = some (if d = 0 then noR else lowC n d) := by
  obtain ⟨k, rfl⟩ : ∃ m, k = m + 1 := ⟨k - 1, by omega⟩
  simp only [impl_lowest.j0]
  by_cases h0 : d = 0
  · rw [if_pos h0, if_pos h0]
    rfl
  · have hg := gI_pos n d (by omega)
    rw [if_neg h0, if_neg h0, mxAbs (by omega), impl_divisor.ok n d hd k (by omega)]
    simp only [Option.bind_some]
    rw [if_neg (by omega), wT (by omega), wT (by omega), impl_IsRatio.ok _ _ k (by omega)]
    simp only [Option.bind_some]
    unfold lowC noR
    split <;> rfl
theorem impl_lowest.ok (n d : Int) (hn : n.natAbs ≤ 1000000000000000000) (hd : d.natAbs ≤ 1000000000000000) (k : Nat) (hk : 1000000000000001 < k) : impl_lowest.f k n d = some (lowP n d) := by
  unfold impl_lowest.f lowP
  by_cases h : d < 0
  · rw [if_pos h, if_pos h, @wN (-n) (by omega), @wN (-d) (by omega), impl_lowest.j0_ok (-n) (-d) (by omega) (by omega) (by omega) k hk, if_neg (by omega)]
  · rw [if_neg h, if_neg h, impl_lowest.j0_ok n d hn (by omega) (by omega) k hk]
def makeR (n d : Int) : Int × Int × Bool := if ((-1000000000000000 : Int) ≤ n ∧ n ≤ 1000000000000000) ∧ ((-1000000000000000 : Int) ≤ d ∧ d ≤ 1000000000000000) then lowP n d else noR
theorem impl_MakeRatio.ok (n d : Int) (k : Nat) (hk : 1000000000000001 < k) : impl_MakeRatio.f k n d = some (makeR n d) := by
  unfold impl_MakeRatio.f makeR
  rw [impl_InRange.ok, impl_InRange.ok]
  simp only [Option.bind_some]
  by_cases c1 : (-1000000000000000 : Int) ≤ n ∧ n ≤ 1000000000000000
  · by_cases c2 : (-1000000000000000 : Int) ≤ d ∧ d ≤ 1000000000000000
    · rw [if_pos (by simpa using c1), if_pos (by simpa using c2), if_pos ⟨c1, c2⟩, impl_lowest.ok n d (by omega) (by omega) k hk]
      rfl
    · rw [if_pos (by simpa using c1), if_neg (by simpa using c2), if_neg (fun h => c2 h.2)]
      rfl
  · rw [if_neg (by simpa using c1), if_neg (fun h => c1 h.1)]
    rfl
theorem spec_MakeRatio.j1_ok (n d : Int) (hn : n.natAbs ≤ 1000000000000000000) (hd : 0 < d) (hd' : d ≤ 1000000000000000) (k : Nat) (hk : 1000000000000001 < k) : spec_MakeRatio.j1 k n d = some (lowC n d) := by
  obtain ⟨k, rfl⟩ : ∃ m, k = m + 1 := ⟨k - 1, by omega⟩
  have hg := gI_pos n d (by omega)
  simp only [spec_MakeRatio.j1]
  rw [spec_l4Abs.ok n (by omega)]
  simp only [Option.bind_some]
  rw [spec_l4Gcd.ok n d (by omega) k (by omega)]
  simp only [Option.bind_some]
  rw [if_neg (by omega), wT (by omega), wT (by omega), spec_IsRatio.ok _ _ k (by omega)]
  simp only [Option.bind_some]
  unfold lowC noR
  split <;> rfl
theorem spec_MakeRatio.ok (n d : Int) (k : Nat) (hk : 1000000000000002 < k) : spec_MakeRatio.f k n d = some (makeR n d) := by
  obtain ⟨k, rfl⟩ : ∃ m, k = m + 1 := ⟨k - 1, by omega⟩
  unfold spec_MakeRatio.f makeR
  rw [spec_l1In.ok, spec_l1In.ok]
  simp only [Option.bind_some, spec_MakeRatio.j0]
  by_cases c1 : (-1000000000000000 : Int) ≤ n ∧ n ≤ 1000000000000000
  · by_cases c2 : (-1000000000000000 : Int) ≤ d ∧ d ≤ 1000000000000000
    · have hc : ((-1000000000000000 : Int) ≤ n ∧ n ≤ 1000000000000000) ∧ ((-1000000000000000 : Int) ≤ d ∧ d ≤ 1000000000000000) := ⟨c1, c2⟩
      rw [if_pos (by simpa using c1), if_pos (by simpa using c2), if_pos hc]
      unfold lowP
      by_cases h0 : d = 0
      · have h0' : (d == 0) = true := by simpa using h0
        rw [if_pos h0', if_neg (by omega), if_pos h0]
        rfl
      · have h0' : ¬ (d == 0) = true := by simpa using h0
        rw [if_neg h0']
        by_cases h : d < 0
        · rw [if_pos h, if_pos h, @wN (-n) (by omega), @wN (-d) (by omega), spec_MakeRatio.j1_ok (-n) (-d) (by omega) (by omega) (by omega) k (by omega)]
        · rw [if_neg h, if_neg h, if_neg h0, spec_MakeRatio.j1_ok n d (by omega) (by omega) (by omega) k (by omega)]
    · have hc : ¬ (((-1000000000000000 : Int) ≤ n ∧ n ≤ 1000000000000000) ∧ ((-1000000000000000 : Int) ≤ d ∧ d ≤ 1000000000000000)) := fun h => c2 h.2
      rw [if_pos (by simpa using c1), if_neg (by simpa using c2), if_neg hc, if_pos trivial]
      rfl
  · have hc : ¬ (((-1000000000000000 : Int) ≤ n ∧ n ≤ 1000000000000000) ∧ ((-1000000000000000 : Int) ≤ d ∧ d ≤ 1000000000000000)) := fun h => c1 h.1
    rw [if_neg (by simpa using c1), if_neg hc, if_pos trivial]
    rfl
theorem lowC_no {n d : Int} (h : (lowC n d).2.2 = false) : lowC n d = noR := by
  unfold lowC at *
  split at h
  · simp at h
  · rename_i c
    rw [if_neg c]
theorem makeR_no {n d : Int} (h : (makeR n d).2.2 = false) : makeR n d = noR := by
  unfold makeR lowP at *
  split at h
  · rename_i c
    rw [if_pos c]
    split at h
    · rename_i c
      rw [if_pos c]
      exact lowC_no h
    · rename_i c
      rw [if_neg c]
      split at h
      · rename_i c
        rw [if_pos c]
      · rename_i c
        rw [if_neg c]
        exact lowC_no h
  · rename_i c
    rw [if_neg c]
def addR (an ad bn bd : Int) : Int × Int × Bool := if isRB an ad = true ∧ isRB bn bd = true then lowP (an * bd + bn * ad) (ad * bd) else noR
theorem impl_AddRatio.ok (an ad bn bd : Int) (k : Nat) (hk : 1000000000000001 < k) : impl_AddRatio.f k an ad bn bd = some (addR an ad bn bd) := by
  unfold impl_AddRatio.f addR
  rw [impl_IsRatio.ok an ad k (by omega), impl_IsRatio.ok bn bd k (by omega)]
  simp only [Option.bind_some]
  by_cases h1 : isRB an ad = true
  · by_cases h2 : isRB bn bd = true
    · obtain ⟨a1, a2, a3⟩ := isRB_b h1
      obtain ⟨b1, b2, b3⟩ := isRB_b h2
      have m1 : (an * bd).natAbs ≤ 1000000000 * 1000000 := mulB (by omega) (by omega)
      have m2 : (bn * ad).natAbs ≤ 1000000000 * 1000000 := mulB (by omega) (by omega)
      have m3 : (ad * bd).natAbs ≤ 1000000 * 1000000 := mulB (by omega) (by omega)
      rw [if_pos h1, if_pos h2, if_pos ⟨h1, h2⟩, wN (x := an * bd) (by omega), wN (x := bn * ad) (by omega), wN (x := ad * bd) (by omega), wN (x := an * bd + bn * ad) (by omega), impl_lowest.ok _ _ (by omega) (by omega) k hk]
      rfl
    · rw [if_pos h1, if_neg h2, if_neg (fun h => h2 h.2)]
      rfl
  · rw [if_neg h1, if_neg (fun h => h1 h.1)]
    rfl
theorem posR {g x : Int} (hg : 0 < g) (h : 0 < g * x) : 0 < x := by
  by_cases hx : 0 < x
  · exact hx
  · exfalso
    have : g * x ≤ g * 0 := Int.mul_le_mul_of_nonneg_left (by omega) (by omega)
    rw [Int.mul_zero] at this
    omega
theorem gI_dvd_left (n d : Int) : gI n d ∣ n := by
  unfold gI
  exact Int.ofNat_dvd_left.mpr (Nat.gcd_dvd_left _ _)
theorem gI_dvd_right (n d : Int) : gI n d ∣ d := by
  unfold gI
  exact Int.ofNat_dvd_left.mpr (Nat.gcd_dvd_right _ _)
theorem spec_AddRatio.ok (an ad bn bd : Int) (k : Nat) (hk : 1000000000000002 < k) : spec_AddRatio.f k an ad bn bd = some (addR an ad bn bd) := by
  obtain ⟨k, rfl⟩ : ∃ m, k = m + 1 := ⟨k - 1, by omega⟩
  unfold spec_AddRatio.f addR
  rw [spec_IsRatio.ok an ad _ (by omega), spec_IsRatio.ok bn bd _ (by omega)]
  simp only [Option.bind_some, spec_AddRatio.j0]
  by_cases h1 : isRB an ad = true
  · by_cases h2 : isRB bn bd = true
    · obtain ⟨a1, a2, a3⟩ := isRB_b h1
      obtain ⟨b1, b2, b3⟩ := isRB_b h2
      have hg := gI_pos ad bd (by omega)
      have d1 := Int.mul_tdiv_cancel' (gI_dvd_left ad bd)
      have d2 := Int.mul_tdiv_cancel' (gI_dvd_right ad bd)
      have t1 := tdivB ad (gI ad bd)
      have t2 := tdivB bd (gI ad bd)
      have hp : 0 < Int.tdiv ad (gI ad bd) * bd := by
        have : 0 < gI ad bd * Int.tdiv ad (gI ad bd) := by omega
        exact Int.mul_pos (posR hg this) (by omega)
      rw [if_pos h1, if_neg (by rw [h2]; simp), if_pos ⟨h1, h2⟩, spec_l4Gcd.ok' ad bd (by omega) (by omega) k (by omega)]
      simp only [Option.bind_some]
      rw [if_neg (by omega), wT (by omega), wT (by omega)]
      have e1 : an * bd + bn * ad = gI ad bd * (an * Int.tdiv bd (gI ad bd) + bn * Int.tdiv ad (gI ad bd)) := by
        rw [Int.mul_add, ← Int.mul_assoc, ← Int.mul_assoc, Int.mul_comm (gI ad bd) an, Int.mul_comm (gI ad bd) bn, Int.mul_assoc, Int.mul_assoc, d1, d2]
      have e2 : ad * bd = gI ad bd * (Int.tdiv ad (gI ad bd) * bd) := by rw [← Int.mul_assoc, d1]
      have hd : ¬ ad * bd < 0 := by
        have := Int.mul_pos (show 0 < ad by omega) (show 0 < bd by omega)
        omega
      have hd' : ¬ ad * bd = 0 := by
        have := Int.mul_pos (show 0 < ad by omega) (show 0 < bd by omega)
        omega
      unfold lowP
      rw [if_neg hd, if_neg hd', e1, e2, lowC_scale _ _ _ hg]
      generalize hx : Int.tdiv ad (gI ad bd) = x at *
      generalize hy : Int.tdiv bd (gI ad bd) = y at *
      have m1 : (an * y).natAbs ≤ 1000000000 * 1000000 := mulB (by omega) (by omega)
      have m2 : (bn * x).natAbs ≤ 1000000000 * 1000000 := mulB (by omega) (by omega)
      have m3 : (x * bd).natAbs ≤ 1000000 * 1000000 := mulB (by omega) (by omega)
      rw [wN (x := an * y) (by omega), wN (x := bn * x) (by omega), wN (x := x * bd) (by omega), wN (x := an * y + bn * x) (by omega), spec_l4Abs.ok _ (by omega)]
      simp only [Option.bind_some]
      rw [spec_l4Gcd.ok _ _ (by omega) k (by omega)]
      simp only [Option.bind_some]
      have hg' := gI_pos (an * y + bn * x) (x * bd) hp
      rw [if_neg (by omega), wT (by omega), wT (by omega), spec_IsRatio.ok _ _ k (by omega)]
      simp only [Option.bind_some]
      unfold lowC noR
      split <;> rfl
    · rw [if_pos h1, if_pos (by simpa using h2), if_neg (fun h => h2 h.2)]
      rfl
  · rw [if_neg h1, if_pos trivial, if_neg (fun h => h1 h.1)]
    rfl
theorem addR_noR (an ad : Int) : addR an ad 0 0 = noR := by
  unfold addR
  rw [if_neg]
  intro h
  have := isRB_b h.2
  omega
end Go.Proofs.Ytinbdgngpkbgcaa.F

namespace Go.Proofs.Ytinbdgngpkbgcaa.F
open Go.RowKit Go.Proofs.Ytinbdgngpkbgcaa.Opened Go.Proofs.YtinbdgngpkbgcaaW.PrintWords Go.Proofs.YtinbdgngpkbgcaaW.PrintLast Go.Proofs.YtinbdgngpkbgcaaW.PrintMore
set_option linter.unusedVariables false
set_option linter.unusedSimpArgs false
def endT (t : Int) : List Tmp → Int
  | [] => t
  | f :: _ => mn t f.f0
def partT (t : Int) (e : Tmp) (l : List Tmp) : Int × Int × Bool := makeR (wrap64 (wrap64 (endT t l - e.f0) * 5000)) e.f1
def timeL (t : Int) : Int → Int → List Tmp → Int × Int × Bool
  | n, d, [] => (n, d, true)
  | n, d, e :: l => if e.f0 < t then (if (addR n d (partT t e l).1 (partT t e l).2.1).2.2 = true then timeL t (addR n d (partT t e l).1 (partT t e l).2.1).1 (addR n d (partT t e l).1 (partT t e l).2.1).2.1 l else noR) else (n, d, true)
def timeOf (l : List Tmp) (t : Int) : Int × Int × Bool := if isTempoB l = true ∧ (0 ≤ t ∧ t ≤ 2000) then timeL t 0 1 l else noR
theorem tpB_lt : ∀ (l : List Tmp) (p : Option Tmp), tpB p l = true → ∀ i (h : i + 1 < l.length), (l[i]'(by omega)).f0 < l[i + 1].f0 := by
  intro l
  induction l with
  | nil => intro p hp i h; simp at h
  | cons e l ih =>
    intro p hp i h
    simp only [tpB, Bool.and_eq_true, decide_eq_true_eq] at hp
    cases i with
    | zero =>
      cases l with
      | nil => simp at h
      | cons f l =>
        have h2 := hp.2
        simp only [tpB, Bool.and_eq_true] at h2
        have h3 : (20 ≤ f.f1 ∧ f.f1 ≤ 300) ∧ (0 ≤ f.f0 ∧ f.f0 ≤ 2000) ∧ e.f0 < f.f0 := of_decide_eq_true h2.1
        simpa using h3.2.2
    | succ i => exact ih _ hp.2 i (by simpa using h)
theorem isTempoB_lt {l : List Tmp} (hs : isTempoB l = true) (i : Nat) (h : i + 1 < l.length) : (l[i]'(by omega)).f0 < l[i + 1].f0 := by
  unfold isTempoB at hs
  simp only [Bool.and_eq_true] at hs
  exact tpB_lt l none hs.1 i h
theorem endT_drop (t : Int) (l : List Tmp) (n : Nat) : endT t (l.drop n) = if h : n < l.length then mn t l[n].f0 else t := by
  by_cases h : n < l.length
  · rw [dif_pos h, List.drop_eq_getElem_cons h]
    rfl
  · rw [dif_neg h, List.drop_of_length_le (by omega)]
    rfl
theorem spec_Min.ok' (a b : Int) : spec_Min.f a b = some (mn a b) := by
  unfold spec_Min.f mn
  by_cases h : b < a <;> simp [h]
theorem spec_TimeOf.loop (l : List Tmp) (t : Int) (hm : l.length ≤ 1048576) : ∀ (d k n : Nat) (a b : Int), l.length - n ≤ d → 3 * d + 1000000000000010 < k → spec_TimeOf.l0 k l t (n : Int) a b = some (timeL t a b (l.drop n)) := by
  intro d
  induction d with
  | zero =>
    intro k n a b hd hk
    obtain ⟨k, rfl⟩ : ∃ m, k = m + 2 := ⟨k - 2, by omega⟩
    simp only [spec_TimeOf.l0, spec_TimeOf.j2]
    rw [if_neg (by omega), List.drop_of_length_le (by omega)]
    simp [timeL]
  | succ d ih =>
    intro k n a b hd hk
    obtain ⟨k, rfl⟩ : ∃ m, k = m + 3 := ⟨k - 3, by omega⟩
    by_cases h : n < l.length
    · simp only [spec_TimeOf.l0]
      rw [if_pos (by omega), if_pos (by omega), rdT74 l n h, List.drop_eq_getElem_cons h]
      simp only [spec_TimeOf.j2, timeL]
      by_cases c : l[n].f0 < t
      · have e : (if wrap64 ((n : Int) + 1) < (l.length : Int) then (if 0 ≤ wrap64 ((n : Int) + 1) then (spec_Min.f t (rd_T74 l (wrap64 ((n : Int) + 1))).f0).bind fun x => spec_TimeOf.j3 (k + 1) l t n x a b else none) else spec_TimeOf.j3 (k + 1) l t n t a b) = spec_TimeOf.j3 (k + 1) l t n (endT t (l.drop (n + 1))) a b := by
          rw [w1 h (by omega), endT_drop]
          by_cases h' : n + 1 < l.length
          · rw [if_pos (by omega), if_pos (by omega), rdT74 l (n + 1) h', spec_Min.ok', dif_pos h']
            rfl
          · rw [if_neg (by omega), dif_neg h']
        rw [if_pos (by simpa using c), e, if_pos c]
        simp only [spec_TimeOf.j3]
        rw [if_pos (by omega), if_pos (by omega), rdT74 l n h, spec_MakeRatio.ok _ _ k (by omega)]
        have e2 : makeR (wrap64 (wrap64 (endT t (l.drop (n + 1)) - l[n].f0) * 5000)) l[n].f1 = partT t l[n] (l.drop (n + 1)) := rfl
        rw [e2]
        simp only [Option.bind_some]
        rw [spec_AddRatio.ok _ _ _ _ k (by omega)]
        simp only [Option.bind_some]
        rw [w1 h (by omega), ih k (n + 1) _ _ (by omega) (by omega)]
        unfold noR
        split <;> rfl
      · rw [if_neg (by simpa using c), if_neg c]
    · simp only [spec_TimeOf.l0, spec_TimeOf.j2]
      rw [if_neg (by omega), List.drop_of_length_le (by omega)]
      simp [timeL]
theorem spec_TimeOf.ok (l : List Tmp) (t : Int) (hm : l.length ≤ 1048576) (k : Nat) (hk : 3 * l.length + 1000000000000020 < k) : spec_TimeOf.f k l t = some (timeOf l t) := by
  obtain ⟨k, rfl⟩ : ∃ m, k = m + 1 := ⟨k - 1, by omega⟩
  unfold spec_TimeOf.f timeOf
  rw [spec_IsTempo.ok l (by omega) _ (by omega), spec_l1In.ok]
  simp only [Option.bind_some, spec_TimeOf.j0]
  have hl := spec_TimeOf.loop l t hm l.length k 0 0 1 (by omega) (by omega)
  simp only [List.drop_zero] at hl
  by_cases hs : isTempoB l = true
  · by_cases hr : (0 : Int) ≤ t ∧ t ≤ 2000
    · simp only [hs, hr, and_self, decide_true, Bool.not_true, Bool.false_eq_true, if_true, if_false]
      exact hl
    · simp [hs, hr, noR]
  · simp [hs, noR]
theorem impl_TimeOf.loop (l : List Tmp) (t : Int) (hm : l.length ≤ 1048576) (hs : isTempoB l = true) : ∀ (d k n : Nat) (a b : Int), l.length - n ≤ d → 3 * d + 1000000000000010 < k → impl_TimeOf.l0 k l t l l.length (n : Int) a b = some (timeL t a b (l.drop n)) := by
  intro d
  induction d with
  | zero =>
    intro k n a b hd hk
    obtain ⟨k, rfl⟩ : ∃ m, k = m + 2 := ⟨k - 2, by omega⟩
    simp only [impl_TimeOf.l0]
    rw [if_neg (by omega), List.drop_of_length_le (by omega)]
    simp [timeL]
  | succ d ih =>
    intro k n a b hd hk
    obtain ⟨k, rfl⟩ : ∃ m, k = m + 2 := ⟨k - 2, by omega⟩
    by_cases h : n < l.length
    · simp only [impl_TimeOf.l0]
      rw [if_pos (by omega), if_pos (by omega), if_pos (by omega), rdT74 l n h, List.drop_eq_getElem_cons h]
      have e : (if wrap64 ((n : Int) + 1) < (l.length : Int) then (if 0 ≤ wrap64 ((n : Int) + 1) then impl_TimeOf.j2 (k + 1) l t (mn t (rd_T74 l (wrap64 ((n : Int) + 1))).f0) l l.length n a b l[n].f0 l[n].f1 else none) else impl_TimeOf.j2 (k + 1) l t t l l.length n a b l[n].f0 l[n].f1) = impl_TimeOf.j2 (k + 1) l t (endT t (l.drop (n + 1))) l l.length n a b l[n].f0 l[n].f1 := by
        rw [w1 h (by omega), endT_drop]
        by_cases h' : n + 1 < l.length
        · rw [if_pos (by omega), if_pos (by omega), rdT74 l (n + 1) h', dif_pos h']
        · rw [if_neg (by omega), dif_neg h']
      rw [e]
      simp only [impl_TimeOf.j2, timeL]
      have hc : endT t (l.drop (n + 1)) ≤ l[n].f0 ↔ ¬ l[n].f0 < t := by
        rw [endT_drop]
        by_cases h' : n + 1 < l.length
        · rw [dif_pos h']
          have := isTempoB_lt hs n h'
          unfold mn
          split <;> omega
        · rw [dif_neg h']
          omega
      by_cases c : l[n].f0 < t
      · rw [if_neg (fun h => hc.mp h c), if_pos c, impl_MakeRatio.ok _ _ k (by omega)]
        have e2 : makeR (wrap64 (wrap64 (endT t (l.drop (n + 1)) - l[n].f0) * 5000)) l[n].f1 = partT t l[n] (l.drop (n + 1)) := rfl
        rw [e2]
        simp only [Option.bind_some]
        rw [impl_AddRatio.ok _ _ _ _ k (by omega)]
        simp only [Option.bind_some]
        rw [w1 h (by omega), ih k (n + 1) _ _ (by omega) (by omega)]
        by_cases c2 : (partT t l[n] (l.drop (n + 1))).2.2 = true
        · rw [if_pos c2]
          unfold noR
          split <;> rfl
        · have c3 : (partT t l[n] (l.drop (n + 1))).2.2 = false := by simpa using c2
          have e3 : partT t l[n] (l.drop (n + 1)) = noR := makeR_no c3
          rw [if_neg c2, e3, show noR.1 = 0 from rfl, show noR.2.1 = 0 from rfl, addR_noR]
          rfl
      · rw [if_pos (hc.mpr c), if_neg c]
    · simp only [impl_TimeOf.l0]
      rw [if_neg (by omega), List.drop_of_length_le (by omega)]
      simp [timeL]
theorem impl_TimeOf.ok (l : List Tmp) (t : Int) (hm : l.length ≤ 1048576) (k : Nat) (hk : 3 * l.length + 1000000000000020 < k) : impl_TimeOf.f k l t = some (timeOf l t) := by
  obtain ⟨k, rfl⟩ : ∃ m, k = m + 1 := ⟨k - 1, by omega⟩
  unfold impl_TimeOf.f timeOf
  rw [impl_IsTempo.ok l (by omega) _ (by omega), impl_InRange.ok]
  simp only [Option.bind_some, impl_TimeOf.j0]
  by_cases hs : isTempoB l = true
  · have hl := impl_TimeOf.loop l t hm hs l.length k 0 0 1 (by omega) (by omega)
    simp only [List.drop_zero] at hl
    by_cases hr : (0 : Int) ≤ t ∧ t ≤ 2000
    · simp only [hs, hr, and_self, decide_true, Bool.not_true, Bool.false_eq_true, if_true, if_false]
      exact hl
    · simp [hs, hr, noR]
  · simp [hs, noR]
end Go.Proofs.Ytinbdgngpkbgcaa.F

namespace Go.Proofs.Ytinbdgngpkbgcaa.F
open Go.RowKit Go.Proofs.Ytinbdgngpkbgcaa.Opened Go.Proofs.YtinbdgngpkbgcaaW.PrintWords Go.Proofs.YtinbdgngpkbgcaaW.PrintLast Go.Proofs.YtinbdgngpkbgcaaW.PrintMore
set_option linter.unusedVariables false
set_option linter.unusedSimpArgs false
def vR (n d : Int) : Rat := (n : Rat) / (d : Rat)
theorem castne {d : Int} (h : d ≠ 0) : (d : Rat) ≠ 0 := by
  intro e
  exact h (by exact_mod_cast e)
theorem vR_eq {a b c d : Int} (hb : b ≠ 0) (hd : d ≠ 0) : vR a b = vR c d ↔ a * d = c * b := by
  have h1 := castne hb
  have h2 := castne hd
  unfold vR
  constructor
  · intro h
    have : (a : Rat) * d = c * b := by grind
    exact_mod_cast this
  · intro h
    have : (a : Rat) * d = c * b := by exact_mod_cast h
    grind
theorem vR_add {a b c d : Int} (hb : b ≠ 0) (hd : d ≠ 0) : vR (a * d + c * b) (b * d) = vR a b + vR c d := by
  have h1 := castne hb
  have h2 := castne hd
  unfold vR
  rw [Rat.intCast_add, Rat.intCast_mul, Rat.intCast_mul, Rat.intCast_mul]
  grind
theorem lowC_val {n d : Int} (hd : 0 < d) (h : (lowC n d).2.2 = true) : isRB (lowC n d).1 (lowC n d).2.1 = true ∧ vR (lowC n d).1 (lowC n d).2.1 = vR n d := by
  unfold lowC at *
  split at h
  · rename_i c
    rw [if_pos c]
    refine ⟨c, ?_⟩
    have hg := gI_pos n d hd
    have e1 := Int.mul_tdiv_cancel' (gI_dvd_left n d)
    have e2 := Int.mul_tdiv_cancel' (gI_dvd_right n d)
    have hb := (isRB_b c).1.1
    generalize Int.tdiv n (gI n d) = x at *
    generalize Int.tdiv d (gI n d) = y at *
    show vR x y = vR n d
    rw [vR_eq (by omega) (by omega)]
    generalize gI n d = g at *
    rw [← e1, ← e2]
    grind
  · simp [noR] at h
theorem lowP_val {n d : Int} (h : (lowP n d).2.2 = true) : isRB (lowP n d).1 (lowP n d).2.1 = true ∧ vR (lowP n d).1 (lowP n d).2.1 = vR n d := by
  unfold lowP at *
  split at h
  · rename_i c
    rw [if_pos c]
    have := lowC_val (n := -n) (d := -d) (by omega) h
    refine ⟨this.1, this.2.trans ?_⟩
    rw [vR_eq (by omega) (by omega)]
    grind
  · rename_i c
    rw [if_neg c]
    split at h
    · simp [noR] at h
    · rename_i c2
      rw [if_neg c2]
      exact lowC_val (by omega) h
def mulR (an ad bn bd : Int) : Int × Int × Bool := if isRB an ad = true ∧ isRB bn bd = true then lowP (an * bn) (ad * bd) else noR
theorem makeR_val {n d : Int} (h : (makeR n d).2.2 = true) : isRB (makeR n d).1 (makeR n d).2.1 = true ∧ vR (makeR n d).1 (makeR n d).2.1 = vR n d := by
  unfold makeR at *
  split at h
  · rename_i c
    rw [if_pos c]
    exact lowP_val h
  · simp [noR] at h
theorem addR_val {a b c d : Int} (h : (addR a b c d).2.2 = true) : isRB a b = true ∧ isRB c d = true ∧ isRB (addR a b c d).1 (addR a b c d).2.1 = true ∧ vR (addR a b c d).1 (addR a b c d).2.1 = vR a b + vR c d := by
  unfold addR at *
  split at h
  · rename_i hc
    rw [if_pos hc]
    have h1 := (isRB_b hc.1).1.1
    have h2 := (isRB_b hc.2).1.1
    have := lowP_val h
    exact ⟨hc.1, hc.2, this.1, this.2.trans (vR_add (by omega) (by omega))⟩
  · simp [noR] at h
def secT (t : Int) (e : Tmp) (l : List Tmp) : Rat := ((endT t l - e.f0 : Int) : Rat) * 5000 / (e.f1 : Rat)
def sumT (t : Int) : List Tmp → Rat
  | [] => 0
  | e :: l => if e.f0 < t then secT t e l + sumT t l else 0
def MarksT : Int → List Tmp → Prop
  | _, [] => True
  | a, e :: l => (20 ≤ e.f1 ∧ e.f1 ≤ 300) ∧ (a ≤ e.f0 ∧ e.f0 ≤ 2000) ∧ MarksT (e.f0 + 1) l
theorem MarksT.of : ∀ (l : List Tmp) (q : Tmp), tpB (some q) l = true → MarksT (q.f0 + 1) l
  | [], q, _ => trivial
  | e :: l, q, h => by
    unfold tpB at h
    rw [Bool.and_eq_true, decide_eq_true_eq] at h
    obtain ⟨h1, h2⟩ := h
    unfold okT at h1
    exact ⟨h1.1, ⟨by omega, h1.2.1.2⟩, MarksT.of l e h2⟩
theorem MarksT.ofB {l : List Tmp} (h : isTempoB l = true) : MarksT 0 l ∧ ∃ e m, l = e :: m ∧ e.f0 = 0 := by
  unfold isTempoB at h
  rw [Bool.and_eq_true, decide_eq_true_eq] at h
  obtain ⟨h1, h2, h3⟩ := h
  match l with
  | [] => simp at h2
  | e :: m =>
    unfold tpB at h1
    rw [Bool.and_eq_true, decide_eq_true_eq] at h1
    obtain ⟨g1, g2⟩ := h1
    unfold okT at g1
    exact ⟨⟨g1.1, ⟨by omega, g1.2.1.2⟩, MarksT.of m e g2⟩, e, m, rfl, g1.2.2⟩
theorem endT_cons (t : Int) (f : Tmp) (l : List Tmp) : endT t (f :: l) = mn t f.f0 := rfl
theorem endT_le (t : Int) (l : List Tmp) : endT t l ≤ t := by
  cases l with
  | nil => exact Int.le_refl _
  | cons f l => rw [endT_cons]; unfold mn; split <;> omega
theorem endT_gt {t a : Int} {l : List Tmp} (h : MarksT (a + 1) l) (ht : a < t) : a < endT t l := by
  cases l with
  | nil => exact ht
  | cons f m =>
    have h2 := h.2.1
    rw [endT_cons]
    unfold mn
    split <;> omega
theorem partT_val {t : Int} {e : Tmp} {l : List Tmp} (he : 20 ≤ e.f1 ∧ e.f1 ≤ 300) (h0 : 0 ≤ e.f0) (ht : t ≤ 2000) (hlt : e.f0 < endT t l) (h : isRB (partT t e l).1 (partT t e l).2.1 = true) : vR (partT t e l).1 (partT t e l).2.1 = secT t e l := by
  have hle := endT_le t l
  have ew : wrap64 (wrap64 (endT t l - e.f0) * 5000) = (endT t l - e.f0) * 5000 := by unfold wrap64; omega
  have ep : partT t e l = makeR ((endT t l - e.f0) * 5000) e.f1 := by unfold partT; rw [ew]
  rw [ep] at h ⊢
  by_cases c : (makeR ((endT t l - e.f0) * 5000) e.f1).2.2 = true
  · rw [(makeR_val c).2]
    unfold vR secT
    rw [Rat.intCast_mul]
    rfl
  · have : makeR ((endT t l - e.f0) * 5000) e.f1 = noR := makeR_no (by simpa using c)
    rw [this] at h
    exact absurd h (by decide)
theorem timeL_val (t : Int) (ht : t ≤ 2000) : ∀ (l : List Tmp) (n d : Int) (a : Int), 0 ≤ a → MarksT a l → isRB n d = true → (timeL t n d l).2.2 = true → isRB (timeL t n d l).1 (timeL t n d l).2.1 = true ∧ vR (timeL t n d l).1 (timeL t n d l).2.1 = vR n d + sumT t l
  | [], n, d, a, ha, hl, hn, h => by
    unfold timeL sumT
    exact ⟨hn, by grind⟩
  | e :: l, n, d, a, ha, hl, hn, h => by
    obtain ⟨h1, h2, h3⟩ := hl
    unfold timeL sumT at *
    by_cases c : e.f0 < t
    · rw [if_pos c] at h ⊢
      rw [if_pos c]
      split at h
      · rename_i c2
        rw [if_pos c2]
        obtain ⟨q1, q2, q3, q4⟩ := addR_val c2
        have ih := timeL_val t ht l _ _ (e.f0 + 1) (by omega) h3 q3 h
        refine ⟨ih.1, ih.2.trans ?_⟩
        rw [q4, partT_val h1 (by omega) ht (endT_gt h3 c) q2]
        grind
      · simp [noR] at h
    · rw [if_neg c] at h ⊢
      rw [if_neg c]
      exact ⟨hn, by grind⟩
theorem isRB_01 : isRB 0 1 = true := by decide
theorem timeOf_val {l : List Tmp} {t : Int} (h : (timeOf l t).2.2 = true) : (isTempoB l = true ∧ 0 ≤ t ∧ t ≤ 2000) ∧ isRB (timeOf l t).1 (timeOf l t).2.1 = true ∧ vR (timeOf l t).1 (timeOf l t).2.1 = sumT t l := by
  unfold timeOf at *
  split at h
  · rename_i c
    rw [if_pos c]
    have := timeL_val t c.2.2 l 0 1 0 (by omega) (MarksT.ofB c.1).1 isRB_01 h
    refine ⟨⟨c.1, c.2⟩, this.1, this.2.trans ?_⟩
    unfold vR
    rw [Rat.intCast_zero]
    grind
  · simp [noR] at h
def lessR (an ad bn bd : Int) : Bool := isRB an ad && (isRB bn bd && decide (an * bd < bn * ad))
def finK (m : Tmp) (r : Int × Int × Bool) : Int × Int × Bool := mulR r.1 r.2.1 (makeR m.f1 5000).1 (makeR m.f1 5000).2.1
def finO (m : Tmp) (r : Int × Int × Bool) : Int × Int × Bool := addR m.f0 1 (finK m r).1 (finK m r).2.1
def finT (n d : Int) (m : Tmp) (tn td : Int) : Int × Int × Bool := if ((addR n d (-tn) td).2.2 = true ∧ (makeR m.f1 5000).2.2 = true) ∧ (finK m (addR n d (-tn) td)).2.2 = true ∧ (finO m (addR n d (-tn) td)).2.2 = true then finO m (addR n d (-tn) td) else noR
def tickL (l : List Tmp) (n d : Int) : Tmp → Int → Int → List Tmp → Int × Int × Bool
  | m, tn, td, [] => finT n d m tn td
  | m, tn, td, e :: rest => if (timeOf l e.f0).2.2 = true then (if lessR n d (timeOf l e.f0).1 (timeOf l e.f0).2.1 = true then finT n d m tn td else tickL l n d e (timeOf l e.f0).1 (timeOf l e.f0).2.1 rest) else noR
def tickAt (l : List Tmp) (n d : Int) : Int × Int × Bool := if isTempoB l = true ∧ isRB n d = true ∧ 0 ≤ n then tickL l n d (l.headD ⟨0, 0⟩) 0 1 l.tail else noR
end Go.Proofs.Ytinbdgngpkbgcaa.F

namespace Go.Proofs.Ytinbdgngpkbgcaa.F
open Go.RowKit Go.Proofs.Ytinbdgngpkbgcaa.Opened Go.Proofs.YtinbdgngpkbgcaaW.PrintWords Go.Proofs.YtinbdgngpkbgcaaW.PrintLast Go.Proofs.YtinbdgngpkbgcaaW.PrintMore
set_option linter.unusedVariables false
set_option linter.unusedSimpArgs false
theorem impl_MulRatio.ok (an ad bn bd : Int) (k : Nat) (hk : 1000000000000001 < k) : impl_MulRatio.f k an ad bn bd = some (mulR an ad bn bd) := by
  unfold impl_MulRatio.f mulR
  rw [impl_IsRatio.ok an ad k (by omega), impl_IsRatio.ok bn bd k (by omega)]
  simp only [Option.bind_some]
  by_cases h1 : isRB an ad = true
  · by_cases h2 : isRB bn bd = true
    · obtain ⟨a1, a2, a3⟩ := isRB_b h1
      obtain ⟨b1, b2, b3⟩ := isRB_b h2
      have m1 : (an * bn).natAbs ≤ 1000000000 * 1000000000 := mulB (by omega) (by omega)
      have m3 : (ad * bd).natAbs ≤ 1000000 * 1000000 := mulB (by omega) (by omega)
      rw [if_pos h1, if_pos h2, if_pos ⟨h1, h2⟩, wN (x := an * bn) (by omega), wN (x := ad * bd) (by omega), impl_lowest.ok _ _ (by omega) (by omega) k hk]
      rfl
    · rw [if_pos h1, if_neg h2, if_neg (fun h => h2 h.2)]
      rfl
  · rw [if_neg h1, if_neg (fun h => h1 h.1)]
    rfl
theorem impl_LessRatio.ok (an ad bn bd : Int) (k : Nat) (hk : 1000000000000001 < k) : impl_LessRatio.f k an ad bn bd = some (lessR an ad bn bd) := by
  unfold impl_LessRatio.f lessR
  rw [impl_IsRatio.ok an ad k (by omega), impl_IsRatio.ok bn bd k (by omega)]
  simp only [Option.bind_some]
  by_cases h1 : isRB an ad = true
  · by_cases h2 : isRB bn bd = true
    · obtain ⟨a1, a2, a3⟩ := isRB_b h1
      obtain ⟨b1, b2, b3⟩ := isRB_b h2
      have m1 : (an * bd).natAbs ≤ 1000000000 * 1000000 := mulB (by omega) (by omega)
      have m2 : (bn * ad).natAbs ≤ 1000000000 * 1000000 := mulB (by omega) (by omega)
      rw [if_pos h1, if_pos h2, h1, h2, wN (x := an * bd) (by omega), wN (x := bn * ad) (by omega)]
      rfl
    · rw [if_pos h1, if_neg h2, h1]
      simp only [Bool.not_eq_true] at h2
      rw [h2]
      rfl
  · rw [if_neg h1]
    simp only [Bool.not_eq_true] at h1
    rw [h1]
    rfl
theorem addR_comm (a b c d : Int) : addR a b c d = addR c d a b := by
  unfold addR
  rw [Int.add_comm (a * d) (c * b), Int.mul_comm b d]
  by_cases h : isRB a b = true ∧ isRB c d = true
  · rw [if_pos h, if_pos h.symm]
  · rw [if_neg h, if_neg (fun g => h g.symm)]
def okRate (r : Int) : Bool := (makeR r 5000).2.2
theorem okRate_all : ∀ j, j < 281 → okRate ((j : Nat) + 20 : Int) = true := by decide +kernel
theorem makeR_rate {r : Int} (h : 20 ≤ r ∧ r ≤ 300) : (makeR r 5000).2.2 = true := by
  have g := okRate_all (r - 20).toNat (by omega)
  have e : (((r - 20).toNat : Nat) : Int) + 20 = r := by omega
  rw [e] at g
  unfold okRate at g
  exact g
theorem impl_TickAt.fin (n d tn td : Int) (m : Tmp) (ht : tn.natAbs ≤ 1000000000) (k : Nat) (hk : 1000000000000002 < k) : impl_TickAt.j2 k n d m.f0 m.f1 tn td = some (finT n d m tn td) := by
  obtain ⟨k, rfl⟩ : ∃ q, k = q + 1 := ⟨k - 1, by omega⟩
  rw [impl_TickAt.j2, wN (x := -tn) (by omega), impl_AddRatio.ok _ _ _ _ k (by omega)]
  simp only [Option.bind_some]
  rw [impl_MakeRatio.ok _ _ k (by omega)]
  simp only [Option.bind_some]
  rw [impl_MulRatio.ok _ _ _ _ k (by omega)]
  simp only [Option.bind_some]
  rw [impl_AddRatio.ok _ _ _ _ k (by omega)]
  simp only [Option.bind_some]
  unfold finT finO finK
  generalize addR n d (-tn) td = r
  generalize makeR m.f1 5000 = b
  generalize mulR r.1 r.2.1 b.1 b.2.1 = t
  generalize addR m.f0 1 t.1 t.2.1 = o
  obtain ⟨o1, o2, o3⟩ := o
  obtain ⟨t1, t2, t3⟩ := t
  obtain ⟨b1, b2, b3⟩ := b
  obtain ⟨r1, r2, r3⟩ := r
  cases r3 <;> cases b3 <;> cases t3 <;> cases o3 <;> rfl
theorem timeOf_small {l : List Tmp} {t : Int} (h : (timeOf l t).2.2 = true) : (timeOf l t).1.natAbs ≤ 1000000000 := by
  have := (isRB_b (timeOf_val h).2.1).2.1
  omega
theorem impl_TickAt.loop (l0 : List Tmp) (y : List Tmp) (hm : l0.length ≤ 1048576) (hy : y.length ≤ 1048576) (n d : Int) : ∀ (q k i : Nat) (m : Tmp) (tn td : Int), y.length - i ≤ q → q + 3 * l0.length + 1000000000000030 < k → tn.natAbs ≤ 1000000000 → impl_TickAt.l0 k l0 y y.length (i : Int) n d m.f0 m.f1 tn td = some (tickL l0 n d m tn td (y.drop i)) := by
  intro q
  induction q with
  | zero =>
    intro k i m tn td hq hk ht
    obtain ⟨k, rfl⟩ : ∃ z, k = z + 1 := ⟨k - 1, by omega⟩
    rw [impl_TickAt.l0, if_neg (by omega), List.drop_of_length_le (by omega), impl_TickAt.fin n d tn td m ht k (by omega)]
    rfl
  | succ q ih =>
    intro k i m tn td hq hk ht
    obtain ⟨k, rfl⟩ : ∃ z, k = z + 1 := ⟨k - 1, by omega⟩
    by_cases h : i < y.length
    · rw [impl_TickAt.l0, if_pos (by omega), if_pos (by omega), if_pos (by omega), rdT74 y i h, List.drop_eq_getElem_cons h, impl_TimeOf.ok l0 _ hm k (by omega)]
      simp only [Option.bind_some]
      by_cases c : (timeOf l0 y[i].f0).2.2 = true
      · rw [if_pos c, impl_LessRatio.ok _ _ _ _ k (by omega)]
        simp only [Option.bind_some]
        rw [w1 h (by omega), ih k (i + 1) y[i] _ _ (by omega) (by omega) (timeOf_small c), impl_TickAt.fin n d tn td m ht k (by omega)]
        have e : tickL l0 n d m tn td (y[i] :: y.drop (i + 1)) = if (timeOf l0 y[i].f0).2.2 = true then (if lessR n d (timeOf l0 y[i].f0).1 (timeOf l0 y[i].f0).2.1 = true then finT n d m tn td else tickL l0 n d y[i] (timeOf l0 y[i].f0).1 (timeOf l0 y[i].f0).2.1 (y.drop (i + 1))) else noR := rfl
        rw [e, if_pos c]
        split <;> rfl
      · have e : tickL l0 n d m tn td (y[i] :: y.drop (i + 1)) = if (timeOf l0 y[i].f0).2.2 = true then (if lessR n d (timeOf l0 y[i].f0).1 (timeOf l0 y[i].f0).2.1 = true then finT n d m tn td else tickL l0 n d y[i] (timeOf l0 y[i].f0).1 (timeOf l0 y[i].f0).2.1 (y.drop (i + 1))) else noR := rfl
        rw [e, if_neg c, if_neg c]
        rfl
    · rw [impl_TickAt.l0, if_neg (by omega), List.drop_of_length_le (by omega), impl_TickAt.fin n d tn td m ht k (by omega)]
      rfl
theorem tempo_pos {l : List Tmp} (h : isTempoB l = true) : 0 < l.length := by
  unfold isTempoB at h
  rw [Bool.and_eq_true, decide_eq_true_eq] at h
  omega
theorem impl_TickAt.ok (l : List Tmp) (n d : Int) (hm : l.length ≤ 1048576) (k : Nat) (hk : 5 * l.length + 1000000000000100 < k) : impl_TickAt.f k l n d = some (tickAt l n d) := by
  unfold impl_TickAt.f tickAt
  rw [impl_IsTempo.ok l (by omega) k (by omega), impl_IsRatio.ok n d k (by omega)]
  simp only [Option.bind_some]
  obtain ⟨k, rfl⟩ : ∃ q, k = q + 1 := ⟨k - 1, by omega⟩
  by_cases h1 : isTempoB l = true
  · by_cases h2 : isRB n d = true
    · rw [if_pos h1, if_pos h2, impl_TickAt.j0]
      by_cases h3 : n < 0
      · rw [decide_eq_true h3, if_pos rfl, if_neg (fun h => by omega)]
        rfl
      · have hp := tempo_pos h1
        rw [decide_eq_false h3, if_neg (by simp), if_pos (by omega), if_pos (by omega), Option.bind_some, if_pos ⟨h1, h2, by omega⟩]
        have hl := impl_TickAt.loop l (l.drop 1) hm (by rw [List.length_drop]; omega) n d (l.drop 1).length k 0 (rd_T74 l 0) 0 1 (by omega) (by rw [List.length_drop]; omega) (by omega)
        rw [List.drop_zero] at hl
        have e0 : rd_T74 l 0 = l.headD ⟨0, 0⟩ := by
          cases l with
          | nil => simp at hp
          | cons e m => rfl
        rw [← List.drop_one, ← e0]
        exact hl
    · rw [if_pos h1, if_neg h2, impl_TickAt.j0, if_pos (c := true = true) rfl, if_neg (fun h => h2 h.2.1)]
      rfl
  · rw [if_neg h1, impl_TickAt.j0, if_pos (c := true = true) rfl, if_neg (fun h => h1 h.1)]
    rfl
theorem cop_Z {a b : Int} (h : gI a b = 1) : Nat.Coprime a.natAbs b.natAbs := by
  unfold gI at h
  show Nat.gcd a.natAbs b.natAbs = 1
  omega
theorem spec_LessRatio.ok (an ad bn bd : Int) (k : Nat) (hk : 1000000000000001 < k) : spec_LessRatio.f k an ad bn bd = some (lessR an ad bn bd) := by
  unfold spec_LessRatio.f lessR
  rw [spec_IsRatio.ok an ad k (by omega), spec_IsRatio.ok bn bd k (by omega)]
  simp only [Option.bind_some]
  by_cases h1 : isRB an ad = true
  · by_cases h2 : isRB bn bd = true
    · obtain ⟨a1, a2, a3⟩ := isRB_b h1
      obtain ⟨b1, b2, b3⟩ := isRB_b h2
      have m1 : (an * bd).natAbs ≤ 1000000000 * 1000000 := mulB (by omega) (by omega)
      have m2 : (bn * ad).natAbs ≤ 1000000000 * 1000000 := mulB (by omega) (by omega)
      rw [if_pos h1, if_pos h2, h1, h2, wN (x := an * bd) (by omega), wN (x := bn * ad) (by omega)]
      rfl
    · rw [if_pos h1, if_neg h2, h1]
      simp only [Bool.not_eq_true] at h2
      rw [h2]
      rfl
  · rw [if_neg h1]
    simp only [Bool.not_eq_true] at h1
    rw [h1]
    rfl
theorem cross_low {an ad bn bd x y u v : Int} (h1 : gI an ad = 1) (h2 : gI bn bd = 1) (hbd : 0 < bd) (had : 0 < ad) (e1 : gI an bd * x = an) (e2 : gI an bd * v = bd) (e3 : gI bn ad * y = bn) (e4 : gI bn ad * u = ad) : gI (x * y) (u * v) = 1 := by
  have g1 := gI_pos an bd hbd
  have g2 := gI_pos bn ad had
  have c1 : Nat.Coprime x.natAbs v.natAbs := by
    have e : Nat.gcd (gI an bd * x).natAbs (gI an bd * v).natAbs = (gI an bd).natAbs * Nat.gcd x.natAbs v.natAbs := by
      rw [Int.natAbs_mul, Int.natAbs_mul, Nat.gcd_mul_left]
    rw [e1, e2] at e
    have e' : (gI an bd).natAbs = Nat.gcd an.natAbs bd.natAbs := by unfold gI; omega
    rw [e'] at e
    have hp : 0 < Nat.gcd an.natAbs bd.natAbs := Nat.gcd_pos_of_pos_right _ (by omega)
    exact Nat.eq_of_mul_eq_mul_left hp (by rw [Nat.mul_one]; exact e.symm)
  have c2 : Nat.Coprime y.natAbs u.natAbs := by
    have e : Nat.gcd (gI bn ad * y).natAbs (gI bn ad * u).natAbs = (gI bn ad).natAbs * Nat.gcd y.natAbs u.natAbs := by
      rw [Int.natAbs_mul, Int.natAbs_mul, Nat.gcd_mul_left]
    rw [e3, e4] at e
    have e' : (gI bn ad).natAbs = Nat.gcd bn.natAbs ad.natAbs := by unfold gI; omega
    rw [e'] at e
    have hp : 0 < Nat.gcd bn.natAbs ad.natAbs := Nat.gcd_pos_of_pos_right _ (by omega)
    exact Nat.eq_of_mul_eq_mul_left hp (by rw [Nat.mul_one]; exact e.symm)
  have dv : ∀ {a b c : Int}, a * b = c → b.natAbs ∣ c.natAbs := by
    intro a b c h
    rw [← h, Int.natAbs_mul]
    exact Nat.dvd_mul_left _ _
  have c3 : Nat.Coprime x.natAbs u.natAbs := Nat.Coprime.coprime_dvd_left (dv e1) (Nat.Coprime.coprime_dvd_right (dv e4) (cop_Z h1))
  have c4 : Nat.Coprime y.natAbs v.natAbs := Nat.Coprime.coprime_dvd_left (dv e3) (Nat.Coprime.coprime_dvd_right (dv e2) (cop_Z h2))
  have c5 : Nat.Coprime (x.natAbs * y.natAbs) (u.natAbs * v.natAbs) := Nat.Coprime.mul_left (Nat.Coprime.mul_right c3 c1) (Nat.Coprime.mul_right c2 c4)
  unfold gI
  rw [Int.natAbs_mul, Int.natAbs_mul, c5]
  rfl
theorem lowC_low {x y : Int} (h : gI x y = 1) : lowC x y = if isRB x y = true then (x, y, true) else noR := by
  unfold lowC
  rw [h, Int.tdiv_one, Int.tdiv_one]
theorem spec_MulRatio.ok (an ad bn bd : Int) (k : Nat) (hk : 1000000000000002 < k) : spec_MulRatio.f k an ad bn bd = some (mulR an ad bn bd) := by
  obtain ⟨k, rfl⟩ : ∃ m, k = m + 1 := ⟨k - 1, by omega⟩
  unfold spec_MulRatio.f mulR
  rw [spec_IsRatio.ok an ad _ (by omega), spec_IsRatio.ok bn bd _ (by omega)]
  simp only [Option.bind_some, spec_MulRatio.j0]
  by_cases h1 : isRB an ad = true
  · by_cases h2 : isRB bn bd = true
    · obtain ⟨a1, a2, a3⟩ := isRB_b h1
      obtain ⟨b1, b2, b3⟩ := isRB_b h2
      have hg := gI_pos an bd (by omega)
      have hh := gI_pos bn ad (by omega)
      rw [if_pos h1, if_neg (by rw [h2]; simp), if_pos ⟨h1, h2⟩, spec_l4Abs.ok an (by omega)]
      simp only [Option.bind_some]
      rw [spec_l4Gcd.ok an bd (by omega) k (by omega)]
      simp only [Option.bind_some]
      rw [spec_l4Abs.ok bn (by omega)]
      simp only [Option.bind_some]
      rw [spec_l4Gcd.ok bn ad (by omega) k (by omega)]
      simp only [Option.bind_some]
      rw [if_neg (by omega), if_neg (by omega), wT (a := an) (by omega), wT (a := bn) (by omega), wT (a := ad) (by omega), wT (a := bd) (by omega)]
      have d1 := Int.mul_tdiv_cancel' (gI_dvd_left an bd)
      have d2 := Int.mul_tdiv_cancel' (gI_dvd_right an bd)
      have d3 := Int.mul_tdiv_cancel' (gI_dvd_left bn ad)
      have d4 := Int.mul_tdiv_cancel' (gI_dvd_right bn ad)
      have t1 := tdivB an (gI an bd)
      have t2 := tdivB bd (gI an bd)
      have t3 := tdivB bn (gI bn ad)
      have t4 := tdivB ad (gI bn ad)
      generalize Int.tdiv an (gI an bd) = x at *
      generalize Int.tdiv bd (gI an bd) = v at *
      generalize Int.tdiv bn (gI bn ad) = y at *
      generalize Int.tdiv ad (gI bn ad) = u at *
      have m1 : (x * y).natAbs ≤ 1000000000 * 1000000000 := mulB (by omega) (by omega)
      have m2 : (u * v).natAbs ≤ 1000000 * 1000000 := mulB (by omega) (by omega)
      rw [wN (x := x * y) (by omega), wN (x := u * v) (by omega), spec_IsRatio.ok _ _ k (by omega)]
      simp only [Option.bind_some]
      have lo := cross_low a3 b3 (by omega) (by omega) d1 d2 d3 d4
      have e1 : an * bn = (gI an bd * gI bn ad) * (x * y) := by
        conv => lhs; rw [← d1, ← d3]
        grind
      have e2 : ad * bd = (gI an bd * gI bn ad) * (u * v) := by
        conv => lhs; rw [← d2, ← d4]
        grind
      have p : 0 < ad * bd := Int.mul_pos (by omega) (by omega)
      unfold lowP
      rw [if_neg (c := ad * bd < 0) (by omega), if_neg (c := ad * bd = 0) (by omega), e1, e2, lowC_scale _ _ _ (Int.mul_pos hg hh), lowC_low lo]
      unfold noR
      split <;> rfl
    · rw [if_pos h1, if_pos (by simpa using h2), if_neg (fun h => h2 h.2)]
      rfl
  · rw [if_neg h1, if_pos trivial, if_neg (fun h => h1 h.1)]
    rfl
theorem spec_TickAt.fin (l : List Tmp) (n d tn td : Int) (i : Nat) (hi : i < l.length) (hr : 20 ≤ l[i].f1 ∧ l[i].f1 ≤ 300) (ht : tn.natAbs ≤ 1000000000) (k : Nat) (hk : 1000000000000003 < k) : spec_TickAt.j2 k l (i : Int) n d tn td = some (finT n d l[i] tn td) := by
  obtain ⟨k, rfl⟩ : ∃ q, k = q + 1 := ⟨k - 1, by omega⟩
  rw [spec_TickAt.j2, wN (x := -tn) (by omega), spec_AddRatio.ok _ _ _ _ k (by omega)]
  simp only [Option.bind_some]
  rw [if_pos (by omega), if_pos (by omega), rdT74 l i hi, spec_MakeRatio.ok _ _ k (by omega)]
  simp only [Option.bind_some]
  rw [spec_MulRatio.ok _ _ _ _ k (by omega)]
  simp only [Option.bind_some]
  rw [spec_AddRatio.ok _ _ _ _ k (by omega), addR_comm]
  simp only [Option.bind_some]
  have hb := makeR_rate hr
  unfold finT finO finK
  generalize addR n d (-tn) td = r
  generalize makeR l[i].f1 5000 = b at *
  generalize mulR r.1 r.2.1 b.1 b.2.1 = t
  generalize addR l[i].f0 1 t.1 t.2.1 = o
  obtain ⟨o1, o2, o3⟩ := o
  obtain ⟨t1, t2, t3⟩ := t
  obtain ⟨b1, b2, b3⟩ := b
  obtain ⟨r1, r2, r3⟩ := r
  simp only at hb
  subst hb
  cases r3 <;> cases t3 <;> cases o3 <;> rfl
theorem tempo_rate {l : List Tmp} (h : isTempoB l = true) (i : Nat) (hi : i < l.length) : 20 ≤ l[i].f1 ∧ l[i].f1 ≤ 300 := by
  have hM := (MarksT.ofB h).1
  have : ∀ (l : List Tmp) (a : Int), MarksT a l → ∀ i (hi : i < l.length), 20 ≤ l[i].f1 ∧ l[i].f1 ≤ 300 := by
    intro l
    induction l with
    | nil => intro a _ i hi; simp at hi
    | cons e l ih =>
      intro a h i hi
      cases i with
      | zero => exact h.1
      | succ i => exact ih _ h.2.2 i (by simpa using hi)
  exact this l 0 hM i hi
theorem spec_TickAt.loop (l : List Tmp) (hm : l.length ≤ 1048576) (ht : isTempoB l = true) (n d : Int) : ∀ (q k i j : Nat) (hj : j < l.length) (tn td : Int), l.length - i ≤ q → q + 3 * l.length + 1000000000000040 < k → tn.natAbs ≤ 1000000000 → spec_TickAt.l0 k l (j : Int) (i : Int) n d tn td = some (tickL l n d l[j] tn td (l.drop i)) := by
  intro q
  induction q with
  | zero =>
    intro k i j hj tn td hq hk htn
    obtain ⟨k, rfl⟩ : ∃ z, k = z + 1 := ⟨k - 1, by omega⟩
    rw [spec_TickAt.l0, if_neg (by omega), List.drop_of_length_le (by omega), spec_TickAt.fin l n d tn td j hj (tempo_rate ht j hj) htn k (by omega)]
    rfl
  | succ q ih =>
    intro k i j hj tn td hq hk htn
    obtain ⟨k, rfl⟩ : ∃ z, k = z + 1 := ⟨k - 1, by omega⟩
    by_cases h : i < l.length
    · rw [spec_TickAt.l0, if_pos (by omega), if_pos (by omega), rdT74 l i h, List.drop_eq_getElem_cons h, spec_TimeOf.ok l _ hm k (by omega)]
      simp only [Option.bind_some]
      have e : tickL l n d l[j] tn td (l[i] :: l.drop (i + 1)) = if (timeOf l l[i].f0).2.2 = true then (if lessR n d (timeOf l l[i].f0).1 (timeOf l l[i].f0).2.1 = true then finT n d l[j] tn td else tickL l n d l[i] (timeOf l l[i].f0).1 (timeOf l l[i].f0).2.1 (l.drop (i + 1))) else noR := rfl
      rw [e]
      by_cases c : (timeOf l l[i].f0).2.2 = true
      · rw [if_pos c, if_pos c, spec_LessRatio.ok _ _ _ _ k (by omega)]
        simp only [Option.bind_some]
        rw [w1 h (by omega), ih k (i + 1) i h _ _ (by omega) (by omega) (timeOf_small c), spec_TickAt.fin l n d tn td j hj (tempo_rate ht j hj) htn k (by omega)]
        split <;> rfl
      · rw [if_neg c, if_neg c]
        rfl
    · rw [spec_TickAt.l0, if_neg (by omega), List.drop_of_length_le (by omega), spec_TickAt.fin l n d tn td j hj (tempo_rate ht j hj) htn k (by omega)]
      rfl
theorem spec_TickAt.ok (l : List Tmp) (n d : Int) (hm : l.length ≤ 1048576) (k : Nat) (hk : 5 * l.length + 1000000000000100 < k) : spec_TickAt.f k l n d = some (tickAt l n d) := by
  unfold spec_TickAt.f tickAt
  rw [spec_IsTempo.ok l (by omega) k (by omega), spec_IsRatio.ok n d k (by omega)]
  simp only [Option.bind_some]
  obtain ⟨k, rfl⟩ : ∃ q, k = q + 1 := ⟨k - 1, by omega⟩
  by_cases h1 : isTempoB l = true
  · by_cases h2 : isRB n d = true
    · rw [if_pos h1, if_pos h2, spec_TickAt.j0]
      by_cases h3 : n < 0
      · rw [decide_eq_true h3, if_pos rfl, if_neg (fun h => by omega)]
        rfl
      · have hp := tempo_pos h1
        have hl := spec_TickAt.loop l hm h1 n d l.length k 1 0 hp 0 1 (by omega) (by omega) (by omega)
        rw [decide_eq_false h3, if_neg (by simp), if_pos ⟨h1, h2, by omega⟩]
        have e0 : l.headD ⟨0, 0⟩ = l[0] := by
          cases l with
          | nil => simp at hp
          | cons e m => rfl
        rw [← List.drop_one, e0]
        exact hl
    · rw [if_pos h1, if_neg h2, spec_TickAt.j0, if_pos (c := true = true) rfl, if_neg (fun h => h2 h.2.1)]
      rfl
  · rw [if_neg h1, spec_TickAt.j0, if_pos (c := true = true) rfl, if_neg (fun h => h1 h.1)]
    rfl
end Go.Proofs.Ytinbdgngpkbgcaa.F

namespace Go.Proofs.Ytinbdgngpkbgcaa.F
open Go.RowKit Go.Proofs.Ytinbdgngpkbgcaa.Opened Go.Proofs.YtinbdgngpkbgcaaW.PrintWords Go.Proofs.YtinbdgngpkbgcaaW.PrintLast
set_option linter.unusedVariables false
set_option linter.unusedSimpArgs false
def conv76 (x : S76) : S74 := ⟨x.f0, x.f1⟩
theorem laws_szTempoS.ok (l : List S76) (a : Int) (h : l.length ≤ 9223372036854775807) (h0 : 0 ≤ a) (h1 : a ≤ 1048576) : laws_szTempoS.f l a = some (if a - l.length < 0 then -1 else a - l.length) := by
  have e : wrap64 (a - (l.length : Int)) = a - l.length := by unfold wrap64; omega
  unfold laws_szTempoS.f
  rw [e]
  split <;> rfl
theorem laws_toTempoS.loop (x : List S76) (hm : x.length ≤ 1048576) : ∀ (d k : Nat) (acc : List S74) (n : Nat), n ≤ x.length → x.length - n = d → d < k → acc.length = x.length → acc.take n = (x.map conv76).take n → laws_toTempoS.l0 k x acc (n : Int) = some (x.map conv76) := by
  intro d
  induction d with
  | zero =>
    intro k acc n hn hd hk hl ha
    obtain ⟨k, rfl⟩ : ∃ m, k = m + 1 := ⟨k - 1, by omega⟩
    simp only [laws_toTempoS.l0]
    rw [if_neg (by omega)]
    have : n = x.length := by omega
    subst this
    rw [← hl, List.take_length, hl, ← List.length_map (f := conv76), List.take_length] at ha
    rw [ha]
  | succ d ih =>
    intro k acc n hn hd hk hl ha
    obtain ⟨k, rfl⟩ : ∃ m, k = m + 1 := ⟨k - 1, by omega⟩
    have hlt : n < x.length := by omega
    simp only [laws_toTempoS.l0, laws_toTempo.f, Option.bind_some]
    rw [if_pos (by omega), if_pos (by omega), if_pos (by omega), w1 hlt (by omega), rdT76 x n hlt, Int.toNat_natCast]
    refine ih k _ (n + 1) (by omega) (by omega) (by omega) (by simpa using hl) ?_
    rw [set_take _ _ _ (by omega), ha, take_next (by simpa using hlt)]
    simp [conv76]
theorem laws_toTempoS.ok (x : List S76) (hm : x.length ≤ 1048576) (k : Nat) (hk : x.length < k) : laws_toTempoS.f k x = some (x.map conv76) := by
  unfold laws_toTempoS.f
  rw [if_pos (by omega), if_pos (by omega), Int.toNat_natCast]
  exact laws_toTempoS.loop x hm x.length k _ 0 (by omega) (by omega) hk (by simp) (by simp)
theorem laws_eqTempo.same (v0 : Int) (v1 : Int) : laws_eqTempo.f v0 v1 v0 v1 = some true := by simp [laws_eqTempo.f]
theorem laws_eqTempoS.loop (x : List S74) (hm : x.length ≤ 9223372036854775807) : ∀ (d k : Nat) (n : Nat), n ≤ x.length → x.length - n = d → d < k → laws_eqTempoS.l0 k x x (n : Int) = some true := by
  intro d
  induction d with
  | zero =>
    intro k n hn hd hk
    obtain ⟨k, rfl⟩ : ∃ m, k = m + 1 := ⟨k - 1, by omega⟩
    simp only [laws_eqTempoS.l0]
    rw [if_neg (by omega)]
  | succ d ih =>
    intro k n hn hd hk
    obtain ⟨k, rfl⟩ : ∃ m, k = m + 1 := ⟨k - 1, by omega⟩
    have hlt : n < x.length := by omega
    simp only [laws_eqTempoS.l0, laws_eqTempo.same, Option.bind_some]
    rw [if_pos (by omega), if_pos (by omega), w1 hlt hm]
    simp only [if_true]
    first
      | (rw [if_pos (by omega)]; exact ih k (n + 1) (by omega) (by omega) (by omega))
      | exact ih k (n + 1) (by omega) (by omega) (by omega)
theorem laws_eqTempoS.ok (x : List S74) (hm : x.length ≤ 9223372036854775807) (k : Nat) (hk : x.length < k) : laws_eqTempoS.f k x x = some true := by
  unfold laws_eqTempoS.f
  rw [if_pos rfl]
  exact laws_eqTempoS.loop x hm x.length k 0 (by omega) (by omega) hk
end Go.Proofs.Ytinbdgngpkbgcaa.F

namespace Go.Proofs.Ytinbdgngpkbgcaa.Pure
open Go.RowKit Go.Proofs.Ytinbdgngpkbgcaa.F Go.Proofs.Ytinbdgngpkbgcaa.Opened Go.Proofs.YtinbdgngpkbgcaaW.PrintWords Go.Proofs.YtinbdgngpkbgcaaW.PrintLast Go.Proofs.YtinbdgngpkbgcaaW.PrintMore
set_option linter.unusedVariables false
set_option linter.unusedSimpArgs false
attribute [local congr] bind_left
def Pure_FnExactTickAt : Prop := ∀ (l0 : List S76) (a1_0 a1_1 : Int), l0.length ≤ 9223372036854775807 → (∀ x ∈ l0, Good76 x) → I64 a1_0 → I64 a1_1 → ∃ k, laws_FnExactTickAt.f k l0 a1_0 a1_1 = some true
theorem pure_FnExactTickAt : Pure_FnExactTickAt := by
  intro l0 n d hl0 hg0 hn hd
  by_cases hb0 : 1048576 < l0.length
  · refine ⟨0, ?_⟩
    unfold laws_FnExactTickAt.f
    rw [laws_szTempoS.ok l0 _ hl0 (by omega) (by omega), if_pos (by omega)]
    rfl
  have hm0 : l0.length ≤ 1048576 := by omega
  have hs0 : laws_szTempoS.f l0 ((1048576 : Int)) = some ((1048576 : Int) - l0.length) := by
    rw [laws_szTempoS.ok l0 _ hl0 (by omega) (by omega), if_neg (by omega)]
  have hn0 : ¬ ((1048576 : Int) - l0.length < 0) := by omega
  have T0 := fun k hk => laws_toTempoS.ok l0 hm0 k hk
  generalize hx0 : l0.map conv76 = x0 at T0
  have n0 : x0.length = l0.length := by rw [← hx0, List.length_map]
  obtain ⟨K, hK⟩ : ∃ K : Nat, 5 * l0.length + 1000000000000200 ≤ K := ⟨_, Nat.le_refl _⟩
  refine ⟨K + 10, ?_⟩
  have eR : laws_toRatio.f n d = some (n, d) := rfl
  simp (disch := first | assumption | omega) only [laws_FnExactTickAt.f, laws_FnExactTickAt.j0, hs0, hn0, T0, eR, laws_eqTempoS.ok, spec_TickAt.ok, impl_TickAt.ok, laws_eqRatio.f, Option.bind_some, ↓reduceIte, if_true, if_false, decide_true, decide_false, Bool.not_true, Bool.not_false, bne_self_eq_false, Bool.false_eq_true, not_true_eq_false, Int.reduceLT]
end Go.Proofs.Ytinbdgngpkbgcaa.Pure

namespace Go.Proofs.Ytinbdgngpkbgcaa.fnExactTickAt
open Go.ChangeShapes Go.WideShapes Go.ChangeAt Go.RowKit Go.Joins Go.Proofs.YtinbdgngpkbgcaaW.PrintWords Go.Proofs.Ytinbdgngpkbgcaa.Opened Go.Proofs.Ytinbdgngpkbgcaa.F
open Go.ChangeMaps (open_string shut_string)
set_option linter.unusedVariables false
theorem own : ownKnob Try.prog.godebug = none := by kernel_rfl
theorem laidOut : laidOutB Try.prog = true := by kernel_rfl
set_option maxRecDepth 100000 in
theorem lifted (os : Os) (started : os.Started) (H : Type) (enc : TypeId × Value → H) :
    ReturnsInHanded {} Try.checked os 6 .any (Rows.fnExactTickAtSpec.pre6 enc Try.prog Try.f6 Rows.fnExactTickAtRow.domain false) (Rows.fnExactTickAtSpec.post enc Try.prog Try.f6 false true false false) := by
  refine returnsInHanded_of_change_sized (C := Try.checked) own started (by kernel_rfl) Try.func6
    (ChangeSpec.witness6 (enc := enc) (C := Try.checked) false ⟨#[], #[.slice none 0 0, .agg #[.int .i64 0, .int .i64 0]], []⟩ 8 (by kernel_rfl) (by kernel_rfl) (by kernel_rfl) (by kernel_rfl)) ?_
  intro W base args ds gs before hval0 hW hcnd hsz0 _
  have hval : ∀ (j : Nat) t v, Try.f6.params[j]? = some t → args[j]? = some v → Value.okWide Try.prog W .any base t v := hval0
  have hW' := hW
  obtain ⟨p, q, hA0, hV, rfl, hfz, hnd⟩ := hW
  have hA : DataW.TrodAll enc Try.prog W 0 (fun _ => true) true Try.f6.params.toList args.toList ds p := hA0
  rw [Try.params6] at hA hval
  obtain ⟨v0, vs0, d0, ds0, p0, q0, hargs, rfl, rfl, h0, r0⟩ := trodAll_cons hA
  obtain ⟨v1, vs1, d1, ds1, p1, q1, rfl, rfl, rfl, h1, r1⟩ := trodAll_cons r0
  obtain ⟨rfl, rfl, rfl⟩ := trodAll_nil r1
  obtain rfl : args = #[v0, v1] := by cases args; simp_all
  obtain ⟨rfl, rfl⟩ := trodVars_none hV
  have k0 := h0
  have lt0 : ∀ x ∈ p0, x.block < W.heap.size := by obtain ⟨m, hm⟩ := k0; exact DataW.trod_lt m _ _ _ hm
  obtain ⟨b0, len0, cap0, rfl⟩ := okWide_slice Try.underlying22 (hval 0 22 v0 rfl rfl)
  obtain ⟨l0, hl0, hc0, hC0, hg0⟩ := open_rows k76 Good76 Try.underlying22 Try.underlying76 (by kernel_rfl) (by kernel_rfl) (by rfl) (hk76 Try.underlying76) h0
  subst hl0
  have k1 := h1
  have lt1 : ∀ x ∈ p1, x.block < W.heap.size := by obtain ⟨m, hm⟩ := k1; exact DataW.trod_lt m _ _ _ hm
  obtain ⟨c1_0, c1_1, y1_0, y1_1, m1, rfl, rfl, rfl, hy1_0, hy1_1⟩ := open_agg2 Try.underlying36 (by kernel_rfl) (by kernel_rfl) (hval 1 36 v1 rfl rfl) h1
  obtain ⟨a1_0, e1_0, _, w1_0⟩ := DataW.trod_int Try.underlying3 hy1_0
  obtain rfl := List.head_eq_of_cons_eq e1_0
  obtain ⟨a1_1, e1_1, _, w1_1⟩ := DataW.trod_int Try.underlying3 hy1_1
  obtain rfl := List.head_eq_of_cons_eq e1_1
  clear hA0 hval0 hsz0
  obtain ⟨kk, hp⟩ := Pure.pure_FnExactTickAt l0 a1_0 a1_1 hC0.2.1 hg0 (i64_of w1_0) (i64_of w1_1)
  refine (laws_FnExactTickAt.calls kk _ _ l0 a1_0 a1_1 true W hC0 hc0 hp).mono fun e W' ⟨he, bel0⟩ => ?_
  have bel : Below W.heap.size W W' := bel0
  subst he
  exact ⟨_, rfl, _, _, _, [], _, [], hW', trodAll_mk1 (shut_bool Try.underlying4 _), (trodAll_cons_mk (Below.trod laidOut (by kernel_rfl) (of_decide_eq_true (by kernel_rfl)) k0 bel lt0) (trodAll_cons_mk (Below.trod laidOut (by kernel_rfl) (of_decide_eq_true (by kernel_rfl)) k1 bel lt1) trodAll_mk0)), rfl, bel.frame _, fun h => by cases h⟩
theorem over : Rows.fnExactTickAtRow.holds Try.pinned (OpenSpec.ofChange Rows.fnExactTickAtSpec) :=
  OpenClaim.holds_of_wide 6 Try.f6 rfl rfl rfl rfl rfl rfl rfl ⟨rfl, rfl, rfl, rfl, rfl⟩ rfl rfl rfl rfl rfl (by kernel_rfl) Try.func6 (by kernel_rfl)
    (of_decide_eq_true (by kernel_rfl)) (by unfold Func.isWrapper; first | (rw [if_pos (by decide +kernel)]; kernel_rfl) | (rw [if_neg (by decide +kernel)]; exact ⟨rfl, rfl⟩))
    (fun os started H enc _ => lifted os started H enc)
theorem proved : Rows.FnExactTickAtSaid := over
#print axioms proved
end Go.Proofs.Ytinbdgngpkbgcaa.fnExactTickAt
namespace Go.Proofs.Ytinbdgngpkbgcaa
theorem fnExactTickAt_holds : Rows.FnExactTickAtSaid := fnExactTickAt.proved
end Go.Proofs.Ytinbdgngpkbgcaa
