/- FnPerformances, part 7 of 7: texts of the claim, joined into one file. -/
import Derived.Test.YtbhlmeghbfmgiaaZFnPerformances6

namespace Go.Proofs.Ytbhlmeghbfmgiaa.F
open Go.RowKit Go.Proofs.Ytbhlmeghbfmgiaa.Opened Go.Proofs.YtbhlmeghbfmgiaaW.PrintWords Go.Proofs.YtbhlmeghbfmgiaaW.PrintLast Go.Proofs.YtbhlmeghbfmgiaaW.PrintMore
set_option linter.unusedVariables false
set_option linter.unusedSimpArgs false
def gI (n d : Int) : Int := ((Nat.gcd n.natAbs d.natAbs : Nat) : Int)
theorem gI_pos (n d : Int) (hd : 0 < d) : 0 < gI n d := by
 have : 0 < Nat.gcd n.natAbs d.natAbs := Nat.gcd_pos_of_pos_right _ (by omega)
 unfold gI
 omega
theorem gcd_step (a b : Nat) : Nat.gcd b (a % b) = Nat.gcd a b := by rw [Nat.gcd_comm b (a % b), ← Nat.gcd_rec, Nat.gcd_comm]
theorem tmod_nat (a b : Nat) : Int.tmod (a : Int) (b : Int) = ((a % b : Nat) : Int) := rfl
theorem mulB {a b : Int} {A B : Nat} (ha : a.natAbs ≤ A) (hb : b.natAbs ≤ B) : (a * b).natAbs ≤ A * B := by
 rw [Int.natAbs_mul]
 exact Nat.mul_le_mul ha hb
theorem wN {x : Int} (h : x.natAbs ≤ 9223372036854775807) : wrap64 x = x := wid (by omega) (by omega)
theorem tdivB (a b : Int) : (Int.tdiv a b).natAbs ≤ a.natAbs := by
 rw [Int.natAbs_tdiv]
 exact Nat.div_le_self _ _
theorem wT {a b : Int} (h : a.natAbs ≤ 9223372036854775807) : wrap64 (Int.tdiv a b) = Int.tdiv a b := wN (Nat.le_trans (tdivB a b) h)
theorem mxAbs {a : Int} (h : a.natAbs ≤ 9223372036854775807) : mx a (wrap64 (-a)) = (a.natAbs : Int) := by
 unfold mx wrap64
 split <;> omega
theorem spec_l4Gcd.loop : ∀ (m a b k : Nat), b ≤ m → m < k → spec_l4Gcd.l0 k (a : Int) (b : Int) = some ((Nat.gcd a b : Nat) : Int) := by
 intro m
 induction m with
 | zero =>
  intro a b k hb hk
  obtain ⟨k, rfl⟩ : ∃ m, k = m + 1 := ⟨k - 1, by omega⟩
  have : b = 0 := by omega
  subst this
  simp [spec_l4Gcd.l0]
 | succ m ih =>
  intro a b k hb hk
  obtain ⟨k, rfl⟩ : ∃ m, k = m + 1 := ⟨k - 1, by omega⟩
  by_cases h : b = 0
  ·
   subst h
   simp [spec_l4Gcd.l0]
  have hlt : a % b < b := Nat.mod_lt _ (by omega)
  simp only [spec_l4Gcd.l0]
  rw [if_neg (by omega), tmod_nat, ih b (a % b) k (by omega) (by omega), gcd_step]
theorem impl_divisor.loop : ∀ (m a b k : Nat), b ≤ m → m < k → impl_divisor.l0 k (a : Int) (b : Int) = some ((Nat.gcd a b : Nat) : Int) := by
 intro m
 induction m with
 | zero =>
  intro a b k hb hk
  obtain ⟨k, rfl⟩ : ∃ m, k = m + 1 := ⟨k - 1, by omega⟩
  have : b = 0 := by omega
  subst this
  simp [impl_divisor.l0]
 | succ m ih =>
  intro a b k hb hk
  obtain ⟨k, rfl⟩ : ∃ m, k = m + 1 := ⟨k - 1, by omega⟩
  by_cases h : b = 0
  ·
   subst h
   simp [impl_divisor.l0]
  have hlt : a % b < b := Nat.mod_lt _ (by omega)
  simp only [impl_divisor.l0]
  rw [if_neg (by omega), tmod_nat, ih b (a % b) k (by omega) (by omega), gcd_step]
theorem spec_l4Gcd.ok (n d : Int) (hd : 0 ≤ d) (k : Nat) (hk : d.natAbs < k) : spec_l4Gcd.f k (n.natAbs : Int) d = some (gI n d) := by
 obtain ⟨m, rfl⟩ := Int.eq_ofNat_of_zero_le hd
 exact spec_l4Gcd.loop m n.natAbs m k (Nat.le_refl m) (by simpa using hk)
theorem spec_l4Gcd.ok' (n d : Int) (hn : 0 ≤ n) (hd : 0 ≤ d) (k : Nat) (hk : d.natAbs < k) : spec_l4Gcd.f k n d = some (gI n d) := by
 rw [← spec_l4Gcd.ok n d hd k hk]
 congr 1
 omega
theorem impl_divisor.ok (n d : Int) (hd : 0 ≤ d) (k : Nat) (hk : d.natAbs < k) : impl_divisor.f k (n.natAbs : Int) d = some (gI n d) := by
 obtain ⟨m, rfl⟩ := Int.eq_ofNat_of_zero_le hd
 exact impl_divisor.loop m n.natAbs m k (Nat.le_refl m) (by simpa using hk)
theorem spec_l4Abs.ok (a : Int) (h : a.natAbs ≤ 9223372036854775807) : spec_l4Abs.f a = some (a.natAbs : Int) := by
 unfold spec_l4Abs.f
 have e := @wN (-a) (by omega)
 rw [e]
 split
 ·
  congr 1
  omega
 congr 1
 omega
def isRB (n d : Int) : Bool := decide (1 ≤ d ∧ d ≤ 1000000) && (decide (-1000000000 ≤ n ∧ n ≤ 1000000000) && (gI n d == 1))
theorem isRB_b {n d : Int} (h : isRB n d = true) : (1 ≤ d ∧ d ≤ 1000000) ∧ (-1000000000 ≤ n ∧ n ≤ 1000000000) ∧ gI n d = 1 := by
 unfold isRB at h
 simp only [Bool.and_eq_true, decide_eq_true_eq, beq_iff_eq] at h
 exact h
theorem spec_IsRatio.ok (n d : Int) (k : Nat) (hk : 1000000 < k) : spec_IsRatio.f k n d = some (isRB n d) := by
 unfold spec_IsRatio.f isRB
 rw [spec_l1In.ok, spec_l1In.ok]
 simp only [Option.bind_some]
 by_cases c1 : (1 : Int) ≤ d ∧ d ≤ 1000000
 ·
  by_cases c2 : (-1000000000 : Int) ≤ n ∧ n ≤ 1000000000
  ·
   rw [if_pos (by simpa using c1), if_pos (by simpa using c2), spec_l4Abs.ok n (by omega)]
   simp only [Option.bind_some]
   rw [spec_l4Gcd.ok n d (by omega) k (by omega)]
   simp [c1, c2]
  rw [if_pos (by simpa using c1), if_neg (by simpa using c2)]
  simp only [c2, decide_false, Bool.false_and, Bool.and_false]
 rw [if_neg (by simpa using c1)]
 simp only [c1, decide_false, Bool.false_and]
theorem impl_IsRatio.ok (n d : Int) (k : Nat) (hk : 1000000 < k) : impl_IsRatio.f k n d = some (isRB n d) := by
 unfold impl_IsRatio.f isRB
 rw [impl_InRange.ok, impl_InRange.ok]
 simp only [Option.bind_some]
 by_cases c1 : (1 : Int) ≤ d ∧ d ≤ 1000000
 ·
  by_cases c2 : (-1000000000 : Int) ≤ n ∧ n ≤ 1000000000
  ·
   rw [if_pos (by simpa using c1), if_pos (by simpa using c2), mxAbs (by omega)]
   rw [impl_divisor.ok n d (by omega) k (by omega)]
   simp [c1, c2]
  rw [if_pos (by simpa using c1), if_neg (by simpa using c2)]
  simp only [c2, decide_false, Bool.false_and, Bool.and_false]
 rw [if_neg (by simpa using c1)]
 simp only [c1, decide_false, Bool.false_and]
def noR : Int × Int × Bool := (0, 0, false)
def lowC (n d : Int) : Int × Int × Bool := if isRB (Int.tdiv n (gI n d)) (Int.tdiv d (gI n d)) = true then (Int.tdiv n (gI n d), Int.tdiv d (gI n d), true) else noR
def lowP (n d : Int) : Int × Int × Bool := if d < 0 then lowC (-n) (-d) else (if d = 0 then noR else lowC n d)
theorem lowC_scale (g n d : Int) (hg : 0 < g) : lowC (g * n) (g * d) = lowC n d := by
 have e : gI (g * n) (g * d) = g * gI n d := by
  unfold gI
  rw [Int.natAbs_mul, Int.natAbs_mul, Nat.gcd_mul_left, Int.natCast_mul]
  congr 1
  omega
 unfold lowC
 rw [e, Int.mul_tdiv_mul_of_pos _ _ hg, Int.mul_tdiv_mul_of_pos _ _ hg]
theorem impl_lowest.j0_ok (n d : Int) (hn : n.natAbs ≤ 1000000000000000000) (hd : 0 ≤ d) (hd' : d ≤ 1000000000000000) (k : Nat) (hk : 1000000000000001 < k) : impl_lowest.j0 k n d = some (if d = 0 then noR else lowC n d) := by
 obtain ⟨k, rfl⟩ : ∃ m, k = m + 1 := ⟨k - 1, by omega⟩
 simp only [impl_lowest.j0]
 by_cases h0 : d = 0
 ·
  rw [if_pos h0, if_pos h0]
  rfl
 have hg := gI_pos n d (by omega)
 rw [if_neg h0, if_neg h0, mxAbs (by omega), impl_divisor.ok n d hd k (by omega)]
 simp only [Option.bind_some]
 rw [if_neg (by omega), wT (by omega), wT (by omega), impl_IsRatio.ok _ _ k (by omega)]
 simp only [Option.bind_some]
 unfold lowC noR
 split <;> rfl
theorem impl_lowest.ok (n d : Int) (hn : n.natAbs ≤ 1000000000000000000) (hd : d.natAbs ≤ 1000000000000000) (k : Nat) (hk : 1000000000000001 < k) : impl_lowest.f k n d = some (lowP n d) := by
 unfold impl_lowest.f lowP
 by_cases h : d < 0
 ·
  rw [if_pos h, if_pos h, @wN (-n) (by omega), @wN (-d) (by omega), impl_lowest.j0_ok (-n) (-d) (by omega) (by omega) (by omega) k hk, if_neg (by omega)]
 rw [if_neg h, if_neg h, impl_lowest.j0_ok n d hn (by omega) (by omega) k hk]
def makeR (n d : Int) : Int × Int × Bool := if ((-1000000000000000 : Int) ≤ n ∧ n ≤ 1000000000000000) ∧ ((-1000000000000000 : Int) ≤ d ∧ d ≤ 1000000000000000) then lowP n d else noR
theorem impl_MakeRatio.ok (n d : Int) (k : Nat) (hk : 1000000000000001 < k) : impl_MakeRatio.f k n d = some (makeR n d) := by
 unfold impl_MakeRatio.f makeR
 rw [impl_InRange.ok, impl_InRange.ok]
 simp only [Option.bind_some]
 by_cases c1 : (-1000000000000000 : Int) ≤ n ∧ n ≤ 1000000000000000
 ·
  by_cases c2 : (-1000000000000000 : Int) ≤ d ∧ d ≤ 1000000000000000
  ·
   rw [if_pos (by simpa using c1), if_pos (by simpa using c2), if_pos ⟨c1, c2⟩, impl_lowest.ok n d (by omega) (by omega) k hk]
   rfl
  rw [if_pos (by simpa using c1), if_neg (by simpa using c2), if_neg (fun h => c2 h.2)]
  rfl
 rw [if_neg (by simpa using c1), if_neg (fun h => c1 h.1)]
 rfl
theorem spec_MakeRatio.j1_ok (n d : Int) (hn : n.natAbs ≤ 1000000000000000000) (hd : 0 < d) (hd' : d ≤ 1000000000000000) (k : Nat) (hk : 1000000000000001 < k) : spec_MakeRatio.j1 k n d = some (lowC n d) := by
 obtain ⟨k, rfl⟩ : ∃ m, k = m + 1 := ⟨k - 1, by omega⟩
 have hg := gI_pos n d (by omega)
 simp only [spec_MakeRatio.j1]
 rw [spec_l4Abs.ok n (by omega)]
 simp only [Option.bind_some]
 rw [spec_l4Gcd.ok n d (by omega) k (by omega)]
 simp only [Option.bind_some]
 rw [if_neg (by omega), wT (by omega), wT (by omega), spec_IsRatio.ok _ _ k (by omega)]
 simp only [Option.bind_some]
 unfold lowC noR
 split <;> rfl
theorem spec_MakeRatio.ok (n d : Int) (k : Nat) (hk : 1000000000000002 < k) : spec_MakeRatio.f k n d = some (makeR n d) := by
 obtain ⟨k, rfl⟩ : ∃ m, k = m + 1 := ⟨k - 1, by omega⟩
 unfold spec_MakeRatio.f makeR
 rw [spec_l1In.ok, spec_l1In.ok]
 simp only [Option.bind_some, spec_MakeRatio.j0]
 by_cases c1 : (-1000000000000000 : Int) ≤ n ∧ n ≤ 1000000000000000
 ·
  by_cases c2 : (-1000000000000000 : Int) ≤ d ∧ d ≤ 1000000000000000
  ·
   have hc : ((-1000000000000000 : Int) ≤ n ∧ n ≤ 1000000000000000) ∧ ((-1000000000000000 : Int) ≤ d ∧ d ≤ 1000000000000000) := ⟨c1, c2⟩
   rw [if_pos (by simpa using c1), if_pos (by simpa using c2), if_pos hc]
   unfold lowP
   by_cases h0 : d = 0
   ·
    have h0' : (d == 0) = true := by simpa using h0
    rw [if_pos h0', if_neg (by omega), if_pos h0]
    rfl
   have h0' : ¬ (d == 0) = true := by simpa using h0
   rw [if_neg h0']
   by_cases h : d < 0
   ·
    rw [if_pos h, if_pos h, @wN (-n) (by omega), @wN (-d) (by omega), spec_MakeRatio.j1_ok (-n) (-d) (by omega) (by omega) (by omega) k (by omega)]
   rw [if_neg h, if_neg h, if_neg h0, spec_MakeRatio.j1_ok n d (by omega) (by omega) (by omega) k (by omega)]
  have hc : ¬ (((-1000000000000000 : Int) ≤ n ∧ n ≤ 1000000000000000) ∧ ((-1000000000000000 : Int) ≤ d ∧ d ≤ 1000000000000000)) := fun h => c2 h.2
  rw [if_pos (by simpa using c1), if_neg (by simpa using c2), if_neg hc, if_pos trivial]
  rfl
 have hc : ¬ (((-1000000000000000 : Int) ≤ n ∧ n ≤ 1000000000000000) ∧ ((-1000000000000000 : Int) ≤ d ∧ d ≤ 1000000000000000)) := fun h => c1 h.1
 rw [if_neg (by simpa using c1), if_neg hc, if_pos trivial]
 rfl
theorem lowC_no {n d : Int} (h : (lowC n d).2.2 = false) : lowC n d = noR := by
 unfold lowC at *
 split at h
 ·
  simp at h
 rename_i c
 rw [if_neg c]
theorem makeR_no {n d : Int} (h : (makeR n d).2.2 = false) : makeR n d = noR := by
 unfold makeR lowP at *
 split at h
 ·
  rename_i c
  rw [if_pos c]
  split at h
  ·
   rename_i c
   rw [if_pos c]
   exact lowC_no h
  rename_i c
  rw [if_neg c]
  split at h
  ·
   rename_i c
   rw [if_pos c]
  rename_i c
  rw [if_neg c]
  exact lowC_no h
 rename_i c
 rw [if_neg c]
def addR (an ad bn bd : Int) : Int × Int × Bool := if isRB an ad = true ∧ isRB bn bd = true then lowP (an * bd + bn * ad) (ad * bd) else noR
theorem impl_AddRatio.ok (an ad bn bd : Int) (k : Nat) (hk : 1000000000000001 < k) : impl_AddRatio.f k an ad bn bd = some (addR an ad bn bd) := by
 unfold impl_AddRatio.f addR
 rw [impl_IsRatio.ok an ad k (by omega), impl_IsRatio.ok bn bd k (by omega)]
 simp only [Option.bind_some]
 by_cases h1 : isRB an ad = true
 ·
  by_cases h2 : isRB bn bd = true
  ·
   obtain ⟨a1, a2, a3⟩ := isRB_b h1
   obtain ⟨b1, b2, b3⟩ := isRB_b h2
   have m1 : (an * bd).natAbs ≤ 1000000000 * 1000000 := mulB (by omega) (by omega)
   have m2 : (bn * ad).natAbs ≤ 1000000000 * 1000000 := mulB (by omega) (by omega)
   have m3 : (ad * bd).natAbs ≤ 1000000 * 1000000 := mulB (by omega) (by omega)
   rw [if_pos h1, if_pos h2, if_pos ⟨h1, h2⟩, wN (x := an * bd) (by omega), wN (x := bn * ad) (by omega), wN (x := ad * bd) (by omega), wN (x := an * bd + bn * ad) (by omega), impl_lowest.ok _ _ (by omega) (by omega) k hk]
   rfl
  rw [if_pos h1, if_neg h2, if_neg (fun h => h2 h.2)]
  rfl
 rw [if_neg h1, if_neg (fun h => h1 h.1)]
 rfl
theorem posR {g x : Int} (hg : 0 < g) (h : 0 < g * x) : 0 < x := by
 by_cases hx : 0 < x
 ·
  exact hx
 exfalso
 have : g * x ≤ g * 0 := Int.mul_le_mul_of_nonneg_left (by omega) (by omega)
 rw [Int.mul_zero] at this
 omega
theorem gI_dvd_left (n d : Int) : gI n d ∣ n := by
 unfold gI
 exact Int.ofNat_dvd_left.mpr (Nat.gcd_dvd_left _ _)
theorem gI_dvd_right (n d : Int) : gI n d ∣ d := by
 unfold gI
 exact Int.ofNat_dvd_left.mpr (Nat.gcd_dvd_right _ _)
theorem spec_AddRatio.ok (an ad bn bd : Int) (k : Nat) (hk : 1000000000000002 < k) : spec_AddRatio.f k an ad bn bd = some (addR an ad bn bd) := by
 obtain ⟨k, rfl⟩ : ∃ m, k = m + 1 := ⟨k - 1, by omega⟩
 unfold spec_AddRatio.f addR
 rw [spec_IsRatio.ok an ad _ (by omega), spec_IsRatio.ok bn bd _ (by omega)]
 simp only [Option.bind_some, spec_AddRatio.j0]
 by_cases h1 : isRB an ad = true
 ·
  by_cases h2 : isRB bn bd = true
  ·
   obtain ⟨a1, a2, a3⟩ := isRB_b h1
   obtain ⟨b1, b2, b3⟩ := isRB_b h2
   have hg := gI_pos ad bd (by omega)
   have d1 := Int.mul_tdiv_cancel' (gI_dvd_left ad bd)
   have d2 := Int.mul_tdiv_cancel' (gI_dvd_right ad bd)
   have t1 := tdivB ad (gI ad bd)
   have t2 := tdivB bd (gI ad bd)
   have hp : 0 < Int.tdiv ad (gI ad bd) * bd := by
    have : 0 < gI ad bd * Int.tdiv ad (gI ad bd) := by omega
    exact Int.mul_pos (posR hg this) (by omega)
   rw [if_pos h1, if_neg (by rw [h2]; simp), if_pos ⟨h1, h2⟩, spec_l4Gcd.ok' ad bd (by omega) (by omega) k (by omega)]
   simp only [Option.bind_some]
   rw [if_neg (by omega), wT (by omega), wT (by omega)]
   have e1 : an * bd + bn * ad = gI ad bd * (an * Int.tdiv bd (gI ad bd) + bn * Int.tdiv ad (gI ad bd)) := by
    rw [Int.mul_add, ← Int.mul_assoc, ← Int.mul_assoc, Int.mul_comm (gI ad bd) an, Int.mul_comm (gI ad bd) bn, Int.mul_assoc, Int.mul_assoc, d1, d2]
   have e2 : ad * bd = gI ad bd * (Int.tdiv ad (gI ad bd) * bd) := by rw [← Int.mul_assoc, d1]
   have hd : ¬ ad * bd < 0 := by
    have := Int.mul_pos (show 0 < ad by omega) (show 0 < bd by omega)
    omega
   have hd' : ¬ ad * bd = 0 := by
    have := Int.mul_pos (show 0 < ad by omega) (show 0 < bd by omega)
    omega
   unfold lowP
   rw [if_neg hd, if_neg hd', e1, e2, lowC_scale _ _ _ hg]
   generalize hx : Int.tdiv ad (gI ad bd) = x at *
   generalize hy : Int.tdiv bd (gI ad bd) = y at *
   have m1 : (an * y).natAbs ≤ 1000000000 * 1000000 := mulB (by omega) (by omega)
   have m2 : (bn * x).natAbs ≤ 1000000000 * 1000000 := mulB (by omega) (by omega)
   have m3 : (x * bd).natAbs ≤ 1000000 * 1000000 := mulB (by omega) (by omega)
   rw [wN (x := an * y) (by omega), wN (x := bn * x) (by omega), wN (x := x * bd) (by omega), wN (x := an * y + bn * x) (by omega), spec_l4Abs.ok _ (by omega)]
   simp only [Option.bind_some]
   rw [spec_l4Gcd.ok _ _ (by omega) k (by omega)]
   simp only [Option.bind_some]
   have hg' := gI_pos (an * y + bn * x) (x * bd) hp
   rw [if_neg (by omega), wT (by omega), wT (by omega), spec_IsRatio.ok _ _ k (by omega)]
   simp only [Option.bind_some]
   unfold lowC noR
   split <;> rfl
  rw [if_pos h1, if_pos (by simpa using h2), if_neg (fun h => h2 h.2)]
  rfl
 rw [if_neg h1, if_pos trivial, if_neg (fun h => h1 h.1)]
 rfl
theorem addR_noR (an ad : Int) : addR an ad 0 0 = noR := by
 unfold addR
 rw [if_neg]
 intro h
 have := isRB_b h.2
 omega
def endT (t : Int) : List Tmp → Int
 | [] => t
 | f :: _ => mn t f.f0
def partT (t : Int) (e : Tmp) (l : List Tmp) : Int × Int × Bool := makeR (wrap64 (wrap64 (endT t l - e.f0) * 5000)) e.f1
def timeL (t : Int) : Int → Int → List Tmp → Int × Int × Bool
 | n, d, [] => (n, d, true)
 | n, d, e :: l => if e.f0 < t then (if (addR n d (partT t e l).1 (partT t e l).2.1).2.2 = true then timeL t (addR n d (partT t e l).1 (partT t e l).2.1).1 (addR n d (partT t e l).1 (partT t e l).2.1).2.1 l else noR) else (n, d, true)
def timeOf (l : List Tmp) (t : Int) : Int × Int × Bool := if isTempoB l = true ∧ (0 ≤ t ∧ t ≤ 2000) then timeL t 0 1 l else noR
theorem tpB_lt : ∀ (l : List Tmp) (p : Option Tmp), tpB p l = true → ∀ i (h : i + 1 < l.length), (l[i]'(by omega)).f0 < l[i + 1].f0 := by
 intro l
 induction l with
 | nil => intro p hp i h; simp at h
 | cons e l ih =>
  intro p hp i h
  simp only [tpB, Bool.and_eq_true, decide_eq_true_eq] at hp
  cases i with
  | zero =>
   cases l with
   | nil => simp at h
   | cons f l =>
    have h2 := hp.2
    simp only [tpB, Bool.and_eq_true] at h2
    have h3 : (20 ≤ f.f1 ∧ f.f1 ≤ 300) ∧ (0 ≤ f.f0 ∧ f.f0 ≤ 2000) ∧ e.f0 < f.f0 := of_decide_eq_true h2.1
    simpa using h3.2.2
  | succ i => exact ih _ hp.2 i (by simpa using h)
theorem isTempoB_lt {l : List Tmp} (hs : isTempoB l = true) (i : Nat) (h : i + 1 < l.length) : (l[i]'(by omega)).f0 < l[i + 1].f0 := by
 unfold isTempoB at hs
 simp only [Bool.and_eq_true] at hs
 exact tpB_lt l none hs.1 i h
theorem endT_drop (t : Int) (l : List Tmp) (n : Nat) : endT t (l.drop n) = if h : n < l.length then mn t l[n].f0 else t := by
 by_cases h : n < l.length
 ·
  rw [dif_pos h, List.drop_eq_getElem_cons h]
  rfl
 rw [dif_neg h, List.drop_of_length_le (by omega)]
 rfl
theorem spec_Min.ok' (a b : Int) : spec_Min.f a b = some (mn a b) := by
 unfold spec_Min.f mn
 by_cases h : b < a <;> simp [h]
theorem spec_TimeOf.loop (l : List Tmp) (t : Int) (hm : l.length ≤ 1048576) : ∀ (d k n : Nat) (a b : Int), l.length - n ≤ d → 3 * d + 1000000000000010 < k → spec_TimeOf.l0 k l t (n : Int) a b = some (timeL t a b (l.drop n)) := by
 intro d
 induction d with
 | zero =>
  intro k n a b hd hk
  obtain ⟨k, rfl⟩ : ∃ m, k = m + 2 := ⟨k - 2, by omega⟩
  simp only [spec_TimeOf.l0, spec_TimeOf.j2]
  rw [if_neg (by omega), List.drop_of_length_le (by omega)]
  simp [timeL]
 | succ d ih =>
  intro k n a b hd hk
  obtain ⟨k, rfl⟩ : ∃ m, k = m + 3 := ⟨k - 3, by omega⟩
  by_cases h : n < l.length
  ·
   simp only [spec_TimeOf.l0]
   rw [if_pos (by omega), if_pos (by omega), rdT151 l n h, List.drop_eq_getElem_cons h]
   simp only [spec_TimeOf.j2, timeL]
   by_cases c : l[n].f0 < t
   ·
    have e : (if wrap64 ((n : Int) + 1) < (l.length : Int) then (if 0 ≤ wrap64 ((n : Int) + 1) then (spec_Min.f t (rd_T151 l (wrap64 ((n : Int) + 1))).f0).bind fun x => spec_TimeOf.j3 (k + 1) l t n x a b else none) else spec_TimeOf.j3 (k + 1) l t n t a b) = spec_TimeOf.j3 (k + 1) l t n (endT t (l.drop (n + 1))) a b := by
     rw [w1 h (by omega), endT_drop]
     by_cases h' : n + 1 < l.length
     ·
      rw [if_pos (by omega), if_pos (by omega), rdT151 l (n + 1) h', spec_Min.ok', dif_pos h']
      rfl
     rw [if_neg (by omega), dif_neg h']
    rw [if_pos (by simpa using c), e, if_pos c]
    simp only [spec_TimeOf.j3]
    rw [if_pos (by omega), if_pos (by omega), rdT151 l n h, spec_MakeRatio.ok _ _ k (by omega)]
    have e2 : makeR (wrap64 (wrap64 (endT t (l.drop (n + 1)) - l[n].f0) * 5000)) l[n].f1 = partT t l[n] (l.drop (n + 1)) := rfl
    rw [e2]
    simp only [Option.bind_some]
    rw [spec_AddRatio.ok _ _ _ _ k (by omega)]
    simp only [Option.bind_some]
    rw [w1 h (by omega), ih k (n + 1) _ _ (by omega) (by omega)]
    unfold noR
    split <;> rfl
   rw [if_neg (by simpa using c), if_neg c]
  simp only [spec_TimeOf.l0, spec_TimeOf.j2]
  rw [if_neg (by omega), List.drop_of_length_le (by omega)]
  simp [timeL]
theorem spec_TimeOf.ok (l : List Tmp) (t : Int) (hm : l.length ≤ 1048576) (k : Nat) (hk : 3 * l.length + 1000000000000020 < k) : spec_TimeOf.f k l t = some (timeOf l t) := by
 obtain ⟨k, rfl⟩ : ∃ m, k = m + 1 := ⟨k - 1, by omega⟩
 unfold spec_TimeOf.f timeOf
 rw [spec_IsTempo.ok l (by omega) _ (by omega), spec_l1In.ok]
 simp only [Option.bind_some, spec_TimeOf.j0]
 have hl := spec_TimeOf.loop l t hm l.length k 0 0 1 (by omega) (by omega)
 simp only [List.drop_zero] at hl
 by_cases hs : isTempoB l = true
 ·
  by_cases hr : (0 : Int) ≤ t ∧ t ≤ 2000
  ·
   simp only [hs, hr, and_self, decide_true, Bool.not_true, Bool.false_eq_true, if_true, if_false]
   exact hl
  simp [hs, hr, noR]
 simp [hs, noR]
theorem impl_TimeOf.loop (l : List Tmp) (t : Int) (hm : l.length ≤ 1048576) (hs : isTempoB l = true) : ∀ (d k n : Nat) (a b : Int), l.length - n ≤ d → 3 * d + 1000000000000010 < k → impl_TimeOf.l0 k l t l l.length (n : Int) a b = some (timeL t a b (l.drop n)) := by
 intro d
 induction d with
 | zero =>
  intro k n a b hd hk
  obtain ⟨k, rfl⟩ : ∃ m, k = m + 2 := ⟨k - 2, by omega⟩
  simp only [impl_TimeOf.l0]
  rw [if_neg (by omega), List.drop_of_length_le (by omega)]
  simp [timeL]
 | succ d ih =>
  intro k n a b hd hk
  obtain ⟨k, rfl⟩ : ∃ m, k = m + 2 := ⟨k - 2, by omega⟩
  by_cases h : n < l.length
  ·
   simp only [impl_TimeOf.l0]
   rw [if_pos (by omega), if_pos (by omega), if_pos (by omega), rdT151 l n h, List.drop_eq_getElem_cons h]
   have e : (if wrap64 ((n : Int) + 1) < (l.length : Int) then (if 0 ≤ wrap64 ((n : Int) + 1) then impl_TimeOf.j2 (k + 1) l t (mn t (rd_T151 l (wrap64 ((n : Int) + 1))).f0) l l.length n a b l[n].f0 l[n].f1 else none) else impl_TimeOf.j2 (k + 1) l t t l l.length n a b l[n].f0 l[n].f1) = impl_TimeOf.j2 (k + 1) l t (endT t (l.drop (n + 1))) l l.length n a b l[n].f0 l[n].f1 := by
    rw [w1 h (by omega), endT_drop]
    by_cases h' : n + 1 < l.length
    ·
     rw [if_pos (by omega), if_pos (by omega), rdT151 l (n + 1) h', dif_pos h']
    rw [if_neg (by omega), dif_neg h']
   rw [e]
   simp only [impl_TimeOf.j2, timeL]
   have hc : endT t (l.drop (n + 1)) ≤ l[n].f0 ↔ ¬ l[n].f0 < t := by
    rw [endT_drop]
    by_cases h' : n + 1 < l.length
    ·
     rw [dif_pos h']
     have := isTempoB_lt hs n h'
     unfold mn
     split <;> omega
    rw [dif_neg h']
    omega
   by_cases c : l[n].f0 < t
   ·
    rw [if_neg (fun h => hc.mp h c), if_pos c, impl_MakeRatio.ok _ _ k (by omega)]
    have e2 : makeR (wrap64 (wrap64 (endT t (l.drop (n + 1)) - l[n].f0) * 5000)) l[n].f1 = partT t l[n] (l.drop (n + 1)) := rfl
    rw [e2]
    simp only [Option.bind_some]
    rw [impl_AddRatio.ok _ _ _ _ k (by omega)]
    simp only [Option.bind_some]
    rw [w1 h (by omega), ih k (n + 1) _ _ (by omega) (by omega)]
    by_cases c2 : (partT t l[n] (l.drop (n + 1))).2.2 = true
    ·
     rw [if_pos c2]
     unfold noR
     split <;> rfl
    have c3 : (partT t l[n] (l.drop (n + 1))).2.2 = false := by simpa using c2
    have e3 : partT t l[n] (l.drop (n + 1)) = noR := makeR_no c3
    rw [if_neg c2, e3, show noR.1 = 0 from rfl, show noR.2.1 = 0 from rfl, addR_noR]
    rfl
   rw [if_pos (hc.mpr c), if_neg c]
  simp only [impl_TimeOf.l0]
  rw [if_neg (by omega), List.drop_of_length_le (by omega)]
  simp [timeL]
theorem impl_TimeOf.ok (l : List Tmp) (t : Int) (hm : l.length ≤ 1048576) (k : Nat) (hk : 3 * l.length + 1000000000000020 < k) : impl_TimeOf.f k l t = some (timeOf l t) := by
 obtain ⟨k, rfl⟩ : ∃ m, k = m + 1 := ⟨k - 1, by omega⟩
 unfold impl_TimeOf.f timeOf
 rw [impl_IsTempo.ok l (by omega) _ (by omega), impl_InRange.ok]
 simp only [Option.bind_some, impl_TimeOf.j0]
 by_cases hs : isTempoB l = true
 ·
  have hl := impl_TimeOf.loop l t hm hs l.length k 0 0 1 (by omega) (by omega)
  simp only [List.drop_zero] at hl
  by_cases hr : (0 : Int) ≤ t ∧ t ≤ 2000
  ·
   simp only [hs, hr, and_self, decide_true, Bool.not_true, Bool.false_eq_true, if_true, if_false]
   exact hl
  simp [hs, hr, noR]
 simp [hs, noR]
abbrev Pld := S49
def okP (e : Pld) : Prop := ((0 : Int) ≤ e.f0 ∧ e.f0 ≤ 10000000) ∧ ((0 : Int) ≤ e.f1 ∧ e.f1 ≤ 127)
instance (e : Pld) : Decidable (okP e) := by unfold okP; infer_instance
def leP (a b : Pld) : Prop := a.f0 < b.f0 ∨ (a.f0 = b.f0 ∧ a.f1 ≤ b.f1)
instance (a b : Pld) : Decidable (leP a b) := by unfold leP; infer_instance
theorem leP_trans {a b c : Pld} (h : leP a b) (h' : leP b c) : leP a c := by unfold leP at *; omega
def pfB : Option Pld → List Pld → Bool
 | _, [] => true
 | none, e :: l => decide (okP e) && pfB (some e) l
 | some q, e :: l => decide (okP e) && (decide (leP q e) && pfB (some e) l)
def isPerfB (l : List Pld) : Bool := pfB none l && decide (l.length ≤ 60)
theorem pfB_some (q : Pld) (l : List Pld) : pfB (some q) l = true ↔ (∀ x ∈ l, okP x) ∧ l.Pairwise leP ∧ ∀ x ∈ l, leP q x := by
 induction l generalizing q with
 | nil => simp [pfB]
 | cons e l ih =>
  simp only [pfB, Bool.and_eq_true, decide_eq_true_eq, ih e, List.mem_cons, forall_eq_or_imp, List.pairwise_cons]
  constructor
  ·
   rintro ⟨h1, h2, h3, h4, h5⟩
   exact ⟨⟨h1, h3⟩, ⟨h5, h4⟩, h2, fun x hx => leP_trans h2 (h5 x hx)⟩
  rintro ⟨⟨h1, h3⟩, ⟨h5, h4⟩, h2, h6⟩
  exact ⟨h1, h2, h3, h4, h5⟩
theorem pfB_none (l : List Pld) : pfB none l = true ↔ (∀ x ∈ l, okP x) ∧ l.Pairwise leP := by
 cases l with
 | nil => simp [pfB]
 | cons e l =>
  simp only [pfB, Bool.and_eq_true, decide_eq_true_eq, pfB_some, List.mem_cons, forall_eq_or_imp, List.pairwise_cons]
  constructor
  ·
   rintro ⟨h1, h3, h4, h5⟩
   exact ⟨⟨h1, h3⟩, h5, h4⟩
  rintro ⟨⟨h1, h3⟩, h5, h4⟩
  exact ⟨h1, h3, h4, h5⟩
theorem isPerfB_iff (l : List Pld) : isPerfB l = true ↔ (∀ x ∈ l, okP x) ∧ l.Pairwise leP ∧ l.length ≤ 60 := by
 unfold isPerfB
 rw [Bool.and_eq_true, pfB_none, decide_eq_true_eq, and_assoc]
def prevP (l : List Pld) (n : Nat) : Option Pld := if n = 0 then none else l[n - 1]?
theorem prevP_next (l : List Pld) (n : Nat) (h : n < l.length) : prevP l (n + 1) = some l[n] := by simp [prevP, h]
theorem prevP_pos (l : List Pld) (n : Nat) (h0 : n ≠ 0) (h : n - 1 < l.length) : prevP l n = some l[n - 1] := by simp [prevP, h0, h]
theorem impl_IsPerformance.loop (l : List Pld) (hm : l.length ≤ 9223372036854775807) : ∀ (d k n : Nat), l.length - n ≤ d → d < k → impl_IsPerformance.l0 k l l l.length (n : Int) = some (pfB (prevP l n) (l.drop n) && decide (l.length ≤ 60)) := by
 intro d
 induction d with
 | zero =>
  intro k n hd hk
  obtain ⟨k, rfl⟩ : ∃ m, k = m + 1 := ⟨k - 1, by omega⟩
  simp only [impl_IsPerformance.l0]
  rw [if_neg (by omega), List.drop_of_length_le (by omega)]
  have e : ((l.length : Int) ≤ 60) ↔ l.length ≤ 60 := by omega
  simp [pfB, e]
 | succ d ih =>
  intro k n hd hk
  obtain ⟨k, rfl⟩ : ∃ m, k = m + 1 := ⟨k - 1, by omega⟩
  by_cases h : n < l.length
  ·
   simp only [impl_IsPerformance.l0, impl_InRange.ok, Option.bind_some]
   rw [if_pos (by omega), if_pos (by omega), if_pos (by omega), rdT49 l n h, w1 h hm, List.drop_eq_getElem_cons h]
   have ih' := ih k (n + 1) (by omega) (by omega)
   rw [prevP_next l n h] at ih'
   by_cases c1 : (0 : Int) ≤ l[n].f0 ∧ l[n].f0 ≤ (10000000 : Int)
   ·
    by_cases c2 : (0 : Int) ≤ l[n].f1 ∧ l[n].f1 ≤ (127 : Int)
    ·
     have ok : okP l[n] := ⟨c1, c2⟩
     rw [if_pos (by simpa using c1), if_pos (by simpa using c2)]
     by_cases c3 : n = 0
     ·
      subst c3
      rw [if_neg (by omega), ih']
      simp [prevP, pfB, ok]
     have e : wrap64 ((n : Int) - 1) = ((n - 1 : Nat) : Int) := by unfold wrap64; omega
     rw [if_pos (by omega), e, if_pos (by omega), if_pos (by omega), rdT49 l (n - 1) (by omega), prevP_pos l n c3 (by omega), ih']
     by_cases c4 : l[n - 1].f0 > l[n].f0
     ·
      rw [if_pos c4]
      have : ¬ leP l[n - 1] l[n] := by unfold leP; omega
      simp [pfB, this]
     rw [if_neg c4]
     by_cases c5 : l[n - 1].f0 = l[n].f0
     ·
      rw [if_pos c5]
      by_cases c6 : l[n - 1].f1 > l[n].f1
      ·
       rw [if_pos c6]
       have : ¬ leP l[n - 1] l[n] := by unfold leP; omega
       simp [pfB, this]
      rw [if_neg c6]
      have : leP l[n - 1] l[n] := by unfold leP; omega
      simp [pfB, ok, this]
     rw [if_neg c5]
     have : leP l[n - 1] l[n] := by unfold leP; omega
     simp [pfB, ok, this]
    have ok : ¬ okP l[n] := fun h => c2 h.2
    rw [if_pos (by simpa using c1), if_neg (by simpa using c2)]
    cases prevP l n <;> simp [pfB, ok]
   have ok : ¬ okP l[n] := fun h => c1 h.1
   rw [if_neg (by simpa using c1)]
   cases prevP l n <;> simp [pfB, ok]
  simp only [impl_IsPerformance.l0]
  rw [if_neg (by omega), List.drop_of_length_le (by omega)]
  have e : ((l.length : Int) ≤ 60) ↔ l.length ≤ 60 := by omega
  simp [pfB, e]
theorem impl_IsPerformance.ok (l : List Pld) (hm : l.length ≤ 9223372036854775807) (k : Nat) (hk : l.length < k) : impl_IsPerformance.f k l = some (isPerfB l) := by
 unfold impl_IsPerformance.f
 exact impl_IsPerformance.loop l hm l.length k 0 (by omega) hk
def modR (n d : Int) : Int := Int.tmod (wrap64 (Int.tmod n d + d)) d
def floorR (n d : Int) : Int := if isRB n d = true then wrap64 (Int.tdiv (wrap64 (n - modR n d)) d) else 0
theorem spec_FloorRatio.ok (n d : Int) (k : Nat) (hk : 1000000 < k) : spec_FloorRatio.f k n d = some (floorR n d) := by
 unfold spec_FloorRatio.f floorR
 rw [spec_IsRatio.ok n d k hk]
 simp only [Option.bind_some]
 by_cases h : isRB n d = true
 ·
  have hb := isRB_b h
  rw [if_pos h, if_pos h]
  unfold spec_Mod.f modR
  rw [spec_l1In.ok]
  simp only [Option.bind_some]
  rw [if_pos (by simp; omega), if_neg (by omega)]
  simp only [Option.bind_some]
  rw [if_neg (by omega)]
 rw [if_neg h, if_neg h]
theorem impl_FloorRatio.ok (n d : Int) (k : Nat) (hk : 1000000 < k) : impl_FloorRatio.f k n d = some (floorR n d) := by
 unfold impl_FloorRatio.f floorR
 rw [impl_IsRatio.ok n d k hk]
 simp only [Option.bind_some]
 by_cases h : isRB n d = true
 ·
  have hb := isRB_b h
  rw [if_pos h, if_pos h]
  unfold impl_Mod.f modR
  rw [impl_InRange.ok]
  simp only [Option.bind_some]
  rw [if_pos (by simp; omega), if_neg (by omega)]
  simp only [Option.bind_some]
  rw [if_neg (by omega)]
 rw [if_neg h, if_neg h]
def gtP (a x : Pld) : Prop := a.f0 > x.f0 ∨ (a.f0 = x.f0 ∧ a.f1 > x.f1)
instance (a x : Pld) : Decidable (gtP a x) := by unfold gtP; exact inferInstance
def posP (l : List Pld) (x : Pld) : Nat → Nat
 | 0 => 0
 | i + 1 => if gtP (rd_T49 l (i : Int)) x then posP l x i else i + 1
theorem posP_le (l : List Pld) (x : Pld) : ∀ i, posP l x i ≤ i
 | 0 => Nat.le_refl _
 | i + 1 => by
  have := posP_le l x i
  unfold posP
  split <;> omega
theorem posP_spec (l : List Pld) (x : Pld) : ∀ i, i ≤ l.length → (∀ m (h : m < l.length), posP l x i ≤ m → m < i → gtP l[m] x) ∧ (posP l x i = 0 ∨ ∃ h : posP l x i - 1 < l.length, ¬ gtP l[posP l x i - 1] x)
 | 0, _ => ⟨fun m h _ h2 => absurd h2 (by omega), .inl rfl⟩
 | i + 1, hi => by
  obtain ⟨h1, h2⟩ := posP_spec l x i (by omega)
  have hl : i < l.length := by omega
  have e0 : posP l x (i + 1) = if gtP l[i] x then posP l x i else i + 1 := by
   rw [← rdT49 l i hl]
   rfl
  by_cases c : gtP l[i] x
  ·
   rw [if_pos c] at e0
   rw [e0]
   refine ⟨fun m h h3 h4 => ?_, h2⟩
   by_cases e : m = i
   ·
    subst e; exact c
   exact h1 m h h3 (by omega)
  rw [if_neg c] at e0
  rw [e0]
  exact ⟨fun m h h3 h4 => absurd h4 (by omega), .inr ⟨by simpa using hl, by simpa using c⟩⟩
def insP (l : List Pld) (x : Pld) : List Pld := l.take (posP l x l.length) ++ [x] ++ l.drop (posP l x l.length)
theorem insP_length (l : List Pld) (x : Pld) : (insP l x).length = l.length + 1 := by
 have := posP_le l x l.length
 unfold insP
 simp
 omega
theorem insP_perm (l : List Pld) (x : Pld) : (insP l x).Perm (x :: l) := by
 unfold insP
 rw [List.append_assoc, List.singleton_append]
 refine List.perm_middle.trans ?_
 rw [List.take_append_drop]
theorem insP_sorted (l : List Pld) (x : Pld) (h : l.Pairwise (fun a b => ¬ gtP a b)) : (insP l x).Pairwise (fun a b => ¬ gtP a b) := by
 obtain ⟨h1, h2⟩ := posP_spec l x l.length (Nat.le_refl _)
 have hle := posP_le l x l.length
 unfold insP
 generalize posP l x l.length = j at h1 h2 hle
 have hg := List.pairwise_iff_getElem.1 h
 have hb : ∀ a ∈ l.take j, ¬ gtP a x := by
  intro a ha
  obtain ⟨i, hi, e⟩ := List.getElem_of_mem ha
  rw [List.length_take] at hi
  rw [List.getElem_take] at e
  subst e
  rcases h2 with h2 | ⟨h3, h4⟩
  ·
   omega
  by_cases e2 : i = j - 1
  ·
   subst e2; exact h4
  have h5 := hg i (j - 1) (by omega) h3 (by omega)
  unfold gtP at *
  omega
 have ha : ∀ b ∈ l.drop j, gtP b x := by
  intro b hb
  obtain ⟨i, hi, e⟩ := List.getElem_of_mem hb
  rw [List.length_drop] at hi
  rw [List.getElem_drop] at e
  subst e
  exact h1 (j + i) (by omega) (by omega) (by omega)
 rw [List.append_assoc, List.pairwise_append]
 refine ⟨h.sublist (List.take_sublist _ _), ?_, fun a h3 b h4 => ?_⟩
 ·
  rw [List.singleton_append, List.pairwise_cons]
  refine ⟨fun b hb => ?_, h.sublist (List.drop_sublist _ _)⟩
  have := ha b hb
  unfold gtP at *
  omega
 rcases List.mem_append.1 h4 with h5 | h5
 ·
  rw [List.mem_singleton] at h5
  subst h5
  exact hb a h3
 have h6 := hb a h3
 have h7 := ha b h5
 unfold gtP at *
 omega
theorem foldP_spec : ∀ (xs acc : List Pld), acc.Pairwise (fun a b => ¬ gtP a b) → (xs.foldl insP acc).Pairwise (fun a b => ¬ gtP a b) ∧ (xs.foldl insP acc).Perm (xs ++ acc)
 | [], acc, h => ⟨h, List.Perm.refl _⟩
 | x :: xs, acc, h => by
  obtain ⟨h1, h2⟩ := foldP_spec xs (insP acc x) (insP_sorted acc x h)
  refine ⟨h1, h2.trans ?_⟩
  refine ((insP_perm acc x).append_left xs).trans ?_
  exact List.perm_middle
theorem srtP_spec (xs : List Pld) : (srtP xs).Pairwise (fun a b => ¬ gtP a b) ∧ (srtP xs).Perm xs := by
 refine ⟨?_, List.mergeSort_perm _ _⟩
 have := List.pairwise_mergeSort (le := fun x y => !(Go.Proofs.ltOf cfP) y x) (fun a b c h1 h2 => by rw [cfP_lt] at *; simp at *; omega) (fun a b => by rw [cfP_lt, cfP_lt]; simp; omega) xs
 unfold srtP
 refine this.imp fun {a b} h => ?_
 rw [cfP_lt] at h
 simp at h
 unfold gtP
 omega
theorem fold_srtP (xs : List Pld) : xs.foldl insP [] = srtP xs := by
 obtain ⟨a1, a2⟩ := foldP_spec xs [] (by simp)
 obtain ⟨b1, b2⟩ := srtP_spec xs
 rw [List.append_nil] at a2
 refine List.Perm.eq_of_pairwise (le := fun a b => ¬ gtP a b) (fun a b _ _ h1 h2 => ?_) a1 b1 (a2.trans b2.symm)
 obtain ⟨a, a'⟩ := a
 obtain ⟨b, b'⟩ := b
 unfold gtP at *
 simp only at *
 have : a = b := by omega
 have : a' = b' := by omega
 subst a
 subst a'
 rfl
theorem srtP_length (xs : List Pld) : (srtP xs).length = xs.length := (srtP_spec xs).2.length_eq
def tms (t : List Tmp) : List S26 → Option (List Pld)
 | [] => some []
 | e :: l => if (timeOf t e.f0).2.2 = true then (tms t l).map (⟨floorR (timeOf t e.f0).1 (timeOf t e.f0).2.1, e.f2⟩ :: ·) else none
theorem tms_length (t : List Tmp) : ∀ (l : List S26) (xs : List Pld), tms t l = some xs → xs.length = l.length
 | [], xs, h => by simp [tms] at h; subst h; rfl
 | e :: l, xs, h => by
  unfold tms at h
  split at h
  ·
   obtain ⟨ys, h1, h2⟩ := Option.map_eq_some_iff.1 h
   rw [← h2, List.length_cons, List.length_cons, tms_length t l ys h1]
  cases h
def playSc (l : List S26) (t : List Tmp) : List Pld × Bool := if isScoreB l = true then (match tms t l with | some xs => (srtP xs, true) | none => ([], false)) else ([], false)
theorem playSc_length (l : List S26) (t : List Tmp) : (playSc l t).1.length ≤ l.length := by
 unfold playSc
 split
 ·
  split
  ·
   rename_i xs h
   rw [srtP_length, tms_length t l xs h]
   exact Nat.le_refl _
  simp
 simp
theorem spec_l14Put.loop (l : List Pld) (x : Pld) (hm : l.length ≤ 4000000) : ∀ (i k : Nat), i ≤ l.length → i < k → spec_l14Put.l0 k l (i : Int) x.f0 x.f1 = some (l.take (posP l x i) ++ [x] ++ l.drop (posP l x i)) := by
 intro i
 induction i with
 | zero =>
  intro k hi hk
  obtain ⟨k, rfl⟩ : ∃ m, k = m + 1 := ⟨k - 1, by omega⟩
  simp only [spec_l14Put.l0, Option.bind_some, List.nil_append, List.length_nil, List.length_append, List.length_cons, posP]
  rw [if_neg (by omega), if_pos (by omega), if_pos (by omega)]
  simp only [Int.toNat_natCast, List.take_zero, List.length_nil, List.drop_zero, List.nil_append]
  rw [if_pos (by omega), if_pos (by omega), if_pos (by omega)]
 | succ i ih =>
  intro k hi hk
  obtain ⟨k, rfl⟩ : ∃ m, k = m + 1 := ⟨k - 1, by omega⟩
  have e : wrap64 (((i + 1 : Nat) : Int) - 1) = (i : Int) := by unfold wrap64; omega
  have hend : ∀ R, R = some (l.take (i + 1) ++ [x] ++ l.drop (i + 1)) → R = some (l.take (i + 1) ++ [x] ++ l.drop (i + 1)) := fun _ h => h
  have hfin : ((some ([] : List Pld)).bind fun y => if (0 : Int) ≤ ((i + 1 : Nat) : Int) then (if ((i + 1 : Nat) : Int) ≤ (l.length : Int) then ((some (l.take (((i + 1 : Nat) : Int)).toNat)).bind fun a => if y.length + a.length < 8796093022208 then ((some (y ++ a)).bind fun b => (some ([⟨x.f0, x.f1⟩] : List Pld)).bind fun c => if b.length + c.length < 8796093022208 then ((some (b ++ c)).bind fun d => (some (l.drop (((i + 1 : Nat) : Int)).toNat)).bind fun e => if d.length + e.length < 8796093022208 then some (d ++ e) else none) else none) else none) else none) else none) = some (l.take (i + 1) ++ [x] ++ l.drop (i + 1)) := by
   simp only [Option.bind_some, List.nil_append, List.length_nil, List.length_append, List.length_cons, Int.toNat_natCast]
   rw [if_pos (by omega), if_pos (by omega), if_pos (by rw [List.length_take]; omega), if_pos (by rw [List.length_take]; omega), if_pos (by rw [List.length_take, List.length_drop]; omega)]
  unfold posP
  rw [rdT49 l i (by omega)]
  simp only [spec_l14Put.l0]
  rw [if_pos (by omega), e, if_pos (by omega), if_pos (by omega), rdT49 l i (by omega), ih k (by omega) (by omega)]
  by_cases c1 : l[i].f0 > x.f0
  ·
   rw [if_pos c1, if_pos (show gtP l[i] x from Or.inl c1)]
  rw [if_neg c1]
  by_cases c2 : l[i].f0 = x.f0
  ·
   rw [if_pos c2]
   by_cases c3 : l[i].f1 > x.f1
   ·
    rw [if_pos c3, if_pos (show gtP l[i] x from Or.inr ⟨c2, c3⟩)]
   rw [if_neg c3, if_neg (show ¬ gtP l[i] x by unfold gtP; omega)]
   exact hfin
  rw [if_neg c2, if_neg (show ¬ gtP l[i] x by unfold gtP; omega)]
  exact hfin
theorem spec_l14Put.ok (l : List Pld) (x : Pld) (hm : l.length ≤ 4000000) (k : Nat) (hk : l.length < k) : spec_l14Put.f k l x.f0 x.f1 = some (insP l x) := by
 unfold spec_l14Put.f
 exact spec_l14Put.loop l x hm l.length k (Nat.le_refl _) hk
theorem spec_PlayScore.loop (l : List S26) (t : List Tmp) (hm : l.length ≤ 1048576) (ht : t.length ≤ 1048576) (hs : isScoreB l = true) : ∀ (d k : Nat) (acc : List Pld) (n : Nat), acc.length ≤ n → l.length - n ≤ d → n ≤ l.length → 2 * d + l.length + 3 * t.length + 1000000000000030 < k → spec_PlayScore.l0 k l t acc (n : Int) = (match tms t (l.drop n) with | some xs => some (xs.foldl insP acc, true) | none => some ([], false)) := by
 intro d
 induction d with
 | zero =>
  intro k acc n ha hd hn hk
  obtain ⟨k, rfl⟩ : ∃ m, k = m + 2 := ⟨k - 2, by omega⟩
  simp only [spec_PlayScore.l0, spec_PlayScore.j1]
  rw [if_neg (by omega), List.drop_of_length_le (by omega), spec_IsScore.ok l (by omega) _ (by omega), hs]
  simp [tms]
 | succ d ih =>
  intro k acc n ha hd hn hk
  obtain ⟨k, rfl⟩ : ∃ m, k = m + 2 := ⟨k - 2, by omega⟩
  by_cases h : n < l.length
  ·
   simp only [spec_PlayScore.l0]
   rw [if_pos (by omega), spec_IsScore.ok l (by omega) _ (by omega), hs]
   simp only [spec_PlayScore.j1, Option.bind_some, if_true]
   rw [if_pos (by omega), if_pos (by omega), rdT26 l n h, w1 h (by omega), List.drop_eq_getElem_cons h, spec_TimeOf.ok t _ ht k (by omega)]
   simp only [Option.bind_some, tms]
   by_cases c : (timeOf t l[n].f0).2.2 = true
   ·
    rw [if_pos c, if_pos c, spec_FloorRatio.ok _ _ k (by omega)]
    simp only [Option.bind_some]
    have hp := spec_l14Put.ok acc ⟨floorR (timeOf t l[n].f0).1 (timeOf t l[n].f0).2.1, l[n].f2⟩ (by omega) k (by omega)
    simp only at hp
    rw [hp]
    simp only [Option.bind_some]
    rw [ih k _ (n + 1) (by rw [insP_length]; omega) (by omega) (by omega) (by omega)]
    cases tms t (l.drop (n + 1)) <;> rfl
   rw [if_neg c, if_neg c]
  simp only [spec_PlayScore.l0, spec_PlayScore.j1]
  rw [if_neg (by omega), List.drop_of_length_le (by omega), spec_IsScore.ok l (by omega) _ (by omega), hs]
  simp [tms]
theorem spec_PlayScore.ok (l : List S26) (t : List Tmp) (hm : l.length ≤ 1048576) (ht : t.length ≤ 1048576) (k : Nat) (hk : 4 * l.length + 3 * t.length + 1000000000000040 < k) : spec_PlayScore.f k l t = some (playSc l t) := by
 unfold spec_PlayScore.f playSc
 by_cases hs : isScoreB l = true
 ·
  have h := spec_PlayScore.loop l t hm ht hs l.length k [] 0 (by simp) (by omega) (by omega) (by omega)
  rw [if_pos hs]
  simp only [List.drop_zero] at h
  refine Eq.trans h ?_
  cases tms t l with
  | none => rfl
  | some xs => simp only [fold_srtP]
 obtain ⟨k, rfl⟩ : ∃ m, k = m + 2 := ⟨k - 2, by omega⟩
 have hl : 0 < l.length := by
  cases l with
  | nil => exact absurd (by decide) hs
  | cons => simp
 have hs' : isScoreB l = false := by simpa using hs
 simp only [spec_PlayScore.l0, spec_PlayScore.j1]
 rw [if_pos (by omega), spec_IsScore.ok l (by omega) _ (by omega), hs']
 simp only [Option.bind_some, Bool.false_eq_true, if_false]
 rw [spec_IsScore.ok l (by omega) _ (by omega), hs']
 rfl
theorem impl_PlayScore.loop (l : List S26) (t : List Tmp) (hm : l.length ≤ 1048576) (ht : t.length ≤ 1048576) : ∀ (d k : Nat) (acc : List Pld) (n : Nat), acc.length ≤ n → l.length - n ≤ d → n ≤ l.length → d + 3 * t.length + 1000000000000030 < k → impl_PlayScore.l0 k t acc l l.length (n : Int) = (match tms t (l.drop n) with | some xs => some (srtP (acc ++ xs), true) | none => some ([], false)) := by
 intro d
 induction d with
 | zero =>
  intro k acc n ha hd hn hk
  obtain ⟨k, rfl⟩ : ∃ m, k = m + 1 := ⟨k - 1, by omega⟩
  simp only [impl_PlayScore.l0]
  rw [if_neg (by omega), if_pos (by omega), List.drop_of_length_le (by omega)]
  simp [tms]
 | succ d ih =>
  intro k acc n ha hd hn hk
  obtain ⟨k, rfl⟩ : ∃ m, k = m + 1 := ⟨k - 1, by omega⟩
  simp only [impl_PlayScore.l0]
  by_cases h : n < l.length
  ·
   rw [if_pos (by omega), if_pos (by omega), if_pos (by omega), rdT26 l n h, w1 h (by omega), List.drop_eq_getElem_cons h, impl_TimeOf.ok t _ ht k (by omega)]
   simp only [Option.bind_some, tms]
   by_cases c : (timeOf t l[n].f0).2.2 = true
   ·
    rw [if_pos c, if_pos c, impl_FloorRatio.ok _ _ k (by omega)]
    simp only [Option.bind_some]
    rw [if_pos (by omega), ih k _ (n + 1) (by simp; omega) (by omega) (by omega) (by omega)]
    cases tms t (l.drop (n + 1)) with
    | none => rfl
    | some xs => simp
   rw [if_neg c, if_neg c]
  rw [if_neg (by omega), if_pos (by omega), List.drop_of_length_le (by omega)]
  simp [tms]
theorem impl_PlayScore.ok (l : List S26) (t : List Tmp) (hm : l.length ≤ 1048576) (ht : t.length ≤ 1048576) (k : Nat) (hk : 4 * l.length + 3 * t.length + 1000000000000040 < k) : impl_PlayScore.f k l t = some (playSc l t) := by
 unfold impl_PlayScore.f playSc
 rw [impl_IsScore.ok l (by omega) _ (by omega)]
 simp only [Option.bind_some]
 by_cases hs : isScoreB l = true
 ·
  have h := impl_PlayScore.loop l t hm ht l.length k [] 0 (by simp) (by omega) (by omega) (by omega)
  rw [if_pos hs, if_pos hs]
  simp only [List.drop_zero] at h
  refine Eq.trans h ?_
  cases tms t l with
  | none => rfl
  | some xs => simp
 rw [if_neg hs, if_neg hs]
def inB (B : Int) (r : Int × Int × Bool) : Prop := 0 ≤ r.1 ∧ 1 ≤ r.2.1 ∧ r.1 ≤ B * r.2.1
theorem lowC_inB (n d B : Int) (hn : 0 ≤ n) (hd : 0 < d) (h : n ≤ B * d) (hk : (lowC n d).2.2 = true) : inB B (lowC n d) := by
 have hg := gI_pos n d hd
 obtain ⟨x, hx⟩ := gI_dvd_left n d
 obtain ⟨y, hy⟩ := gI_dvd_right n d
 generalize hgg : gI n d = g at hg hx hy
 have e1 : Int.tdiv n g = x := by rw [hx]; exact Int.mul_tdiv_cancel_left x (by omega)
 have e2 : Int.tdiv d g = y := by rw [hy]; exact Int.mul_tdiv_cancel_left y (by omega)
 have hx0 : 0 ≤ x := by
  refine Int.not_lt.1 (fun q => ?_)
  have := Int.mul_neg_of_pos_of_neg hg q
  omega
 have hy0 : 0 < y := posR hg (by rw [← hy]; exact hd)
 have hxy : x ≤ B * y := by
  refine Int.le_of_mul_le_mul_left (a := g) ?_ hg
  rw [← hx, show g * (B * y) = B * (g * y) from by rw [← Int.mul_assoc, Int.mul_comm g B, Int.mul_assoc], ← hy]
  exact h
 unfold lowC at hk ⊢
 rw [hgg, e1, e2] at hk ⊢
 by_cases c : isRB x y = true
 ·
  rw [if_pos c]
  exact ⟨hx0, by show 1 ≤ y; omega, hxy⟩
 rw [if_neg c] at hk
 cases hk
theorem lowP_inB (n d B : Int) (hn : 0 ≤ n) (hd : 0 < d) (h : n ≤ B * d) (hk : (lowP n d).2.2 = true) : inB B (lowP n d) := by
 unfold lowP at hk ⊢
 rw [if_neg (by omega), if_neg (by omega)] at hk ⊢
 exact lowC_inB n d B hn hd h hk
theorem makeR_inB (n d B : Int) (hn : 0 ≤ n) (hd : 0 < d) (h : n ≤ B * d) (hk : (makeR n d).2.2 = true) : inB B (makeR n d) := by
 unfold makeR at hk ⊢
 split at hk
 ·
  rename_i c
  rw [if_pos c]
  exact lowP_inB n d B hn hd h hk
 cases hk
theorem addR_inB (a b c d A B : Int) (h1 : inB A (a, b, true)) (h2 : inB B (c, d, true)) (hk : (addR a b c d).2.2 = true) : inB (A + B) (addR a b c d) := by
 obtain ⟨p1, p2, p3⟩ := h1
 obtain ⟨q1, q2, q3⟩ := h2
 simp only at p1 p2 p3 q1 q2 q3
 unfold addR at hk ⊢
 split at hk
 ·
  rename_i e
  rw [if_pos e]
  refine lowP_inB _ _ _ (Int.add_nonneg (Int.mul_nonneg p1 (by omega)) (Int.mul_nonneg q1 (by omega))) (Int.mul_pos (by omega) (by omega)) ?_ hk
  have u1 : a * d ≤ (A * b) * d := Int.mul_le_mul_of_nonneg_right p3 (by omega)
  have u2 : c * b ≤ (B * d) * b := Int.mul_le_mul_of_nonneg_right q3 (by omega)
  have u3 : (A + B) * (b * d) = (A * b) * d + (B * d) * b := by
   rw [Int.add_mul, Int.mul_assoc A b d, Int.mul_assoc B d b, Int.mul_comm d b]
  omega
 cases hk
theorem timeL_inB (t : Int) (ht : 0 ≤ t ∧ t ≤ 2000) : ∀ (l : List Tmp) (p : Option Tmp) (n d A : Int), tpB p l = true → (∀ i (h : i + 1 < l.length), (l[i]'(by omega)).f0 < l[i + 1].f0) → 0 ≤ A → inB A (n, d, true) → (timeL t n d l).2.2 = true → inB (A + 500000 * l.length) (timeL t n d l)
 | [], p, n, d, A, _, _, hA, hi, hk => by
  unfold timeL
  obtain ⟨p1, p2, p3⟩ := hi
  simp only at p1 p2 p3
  refine ⟨p1, p2, ?_⟩
  simpa using p3
 | e :: l, p, n, d, A, hp, hlt, hA, hi, hk => by
  simp only [tpB, Bool.and_eq_true, decide_eq_true_eq] at hp
  obtain ⟨he, hl⟩ := hp
  have he' : (20 ≤ e.f1 ∧ e.f1 ≤ 300) ∧ (0 ≤ e.f0 ∧ e.f0 ≤ 2000) := by
   cases p with
   | none => exact ⟨he.1, he.2.1⟩
   | some q => exact ⟨he.1, he.2.1⟩
  have hmono : ∀ (x y : Int), 0 ≤ y → inB A (n, d, true) → n ≤ (A + y) * d := by
   intro x y hy hi
   obtain ⟨p1, p2, p3⟩ := hi
   simp only at p1 p2 p3
   have := Int.mul_nonneg hy (show 0 ≤ d by omega)
   rw [Int.add_mul]
   omega
  unfold timeL at hk ⊢
  by_cases c : e.f0 < t
  ·
   rw [if_pos c] at hk ⊢
   have hend : e.f0 ≤ endT t l ∧ endT t l ≤ 2000 := by
    cases l with
    | nil => simp only [endT]; omega
    | cons f l =>
     have := hlt 0 (by simp)
     simp only [List.getElem_cons_zero, List.getElem_cons_succ] at this
     simp only [endT, mn]
     split <;> omega
   have hw : wrap64 (wrap64 (endT t l - e.f0) * 5000) = (endT t l - e.f0) * 5000 := by unfold wrap64; omega
   by_cases ck : (addR n d (partT t e l).1 (partT t e l).2.1).2.2 = true
   ·
    rw [if_pos ck] at hk ⊢
    have hpk : (partT t e l).2.2 = true := by
     cases q : (partT t e l).2.2 with
     | true => rfl
     | false =>
      unfold partT at q
      have := makeR_no q
      unfold partT at ck
      rw [this] at ck
      have h0 := addR_noR n d
      unfold noR at ck
      simp only at ck
      rw [h0] at ck
      cases ck
    have hpi : inB 500000 (partT t e l) := by
     unfold partT at hpk ⊢
     rw [hw] at hpk ⊢
     refine makeR_inB _ _ _ (by omega) (by omega) ?_ hpk
     omega
    have ha := addR_inB n d (partT t e l).1 (partT t e l).2.1 A 500000 hi hpi ck
    have := timeL_inB t ht l (some e) _ _ (A + 500000) hl (fun i h => by
     have := hlt (i + 1) (by simp; omega)
     simpa using this) (by omega) ha hk
    rw [show A + 500000 * ((e :: l).length : Int) = A + 500000 + 500000 * (l.length : Int) from by rw [List.length_cons]; omega]
    exact this
   rw [if_neg ck] at hk
   cases hk
  rw [if_neg c] at hk ⊢
  obtain ⟨p1, p2, p3⟩ := hi
  exact ⟨p1, p2, hmono 0 (500000 * ((e :: l).length : Int)) (by omega) ⟨p1, p2, p3⟩⟩
theorem floorR_bound (n d B : Int) (h : inB B (n, d, true)) (hB : 0 ≤ B) (hB' : B ≤ 10000000) : 0 ≤ floorR n d ∧ floorR n d ≤ B := by
 obtain ⟨p1, p2, p3⟩ := h
 simp only at p1 p2 p3
 unfold floorR
 by_cases c : isRB n d = true
 ·
  rw [if_pos c]
  have hb := isRB_b c
  unfold modR
  have m1 : Int.tmod n d = n % d := Int.tmod_eq_emod_of_nonneg p1
  have m2 := Int.emod_nonneg n (show d ≠ 0 by omega)
  have m3 := Int.emod_lt_of_pos n (show 0 < d by omega)
  have w1_ : wrap64 (Int.tmod n d + d) = n % d + d := by rw [m1]; unfold wrap64; omega
  have m4 : Int.tmod (n % d + d) d = n % d := by
   rw [Int.tmod_eq_emod_of_nonneg (by omega), Int.add_emod_right, Int.emod_emod]
  rw [w1_, m4]
  have m5 := Int.mul_ediv_add_emod n d
  have hq0 : 0 ≤ n / d := Int.ediv_nonneg p1 (by omega)
  have hqB : n / d ≤ B := by
   refine Int.le_of_lt_add_one ?_
   refine Int.ediv_lt_of_lt_mul (by omega) ?_
   rw [Int.add_mul]
   omega
  have e1 : wrap64 (n - n % d) = d * (n / d) := by
   have : n - n % d = d * (n / d) := by omega
   rw [this]
   have h1 : d * (n / d) ≤ n := by omega
   have h2 := Int.mul_nonneg (show 0 ≤ d by omega) hq0
   unfold wrap64
   omega
  rw [e1, Int.mul_tdiv_cancel_left _ (show d ≠ 0 by omega)]
  have : wrap64 (n / d) = n / d := by unfold wrap64; omega
  rw [this]
  exact ⟨hq0, hqB⟩
 rw [if_neg c]
 omega
theorem timeOf_bound (l : List Tmp) (t : Int) (hk : (timeOf l t).2.2 = true) : 0 ≤ floorR (timeOf l t).1 (timeOf l t).2.1 ∧ floorR (timeOf l t).1 (timeOf l t).2.1 ≤ 10000000 := by
 unfold timeOf at hk ⊢
 by_cases c : isTempoB l = true ∧ (0 ≤ t ∧ t ≤ 2000)
 ·
  rw [if_pos c] at hk ⊢
  have hs := c.1
  unfold isTempoB at hs
  simp only [Bool.and_eq_true, decide_eq_true_eq] at hs
  have := timeL_inB t c.2 l none 0 1 0 hs.1 (fun i h => isTempoB_lt c.1 i h) (by omega) ⟨by simp, by simp, by simp⟩ hk
  have := floorR_bound _ _ (0 + 500000 * (l.length : Int)) (show inB _ ((timeL t 0 1 l).1, (timeL t 0 1 l).2.1, true) from this) (by omega) (by omega)
  omega
 rw [if_neg c] at hk
 cases hk
theorem tms_spec (t : List Tmp) : ∀ (l : List S26) (xs : List Pld), tms t l = some xs → (∀ e ∈ l, 21 ≤ e.f2 ∧ e.f2 ≤ 108) → (∀ x ∈ xs, okP x) ∧ xs.map (·.f1) = l.map (·.f2)
 | [], xs, h, _ => by simp [tms] at h; subst h; simp
 | e :: l, xs, h, ho => by
  unfold tms at h
  split at h
  ·
   rename_i c
   obtain ⟨ys, h1, h2⟩ := Option.map_eq_some_iff.1 h
   obtain ⟨i1, i2⟩ := tms_spec t l ys h1 (fun x hx => ho x (List.mem_cons_of_mem _ hx))
   have hb := timeOf_bound t e.f0 c
   have he := ho e List.mem_cons_self
   subst h2
   refine ⟨fun x hx => ?_, by simp [i2]⟩
   rcases List.mem_cons.1 hx with rfl | hx
   ·
    exact ⟨hb, by show (0 : Int) ≤ e.f2 ∧ e.f2 ≤ 127; omega⟩
   exact i1 x hx
  cases h
theorem playSc_spec (l : List S26) (t : List Tmp) (h : (playSc l t).2 = true) : isPerfB (playSc l t).1 = true ∧ (playSc l t).1.length = l.length ∧ ((playSc l t).1.map (·.f1)).Perm (l.map (·.f2)) := by
 unfold playSc at h ⊢
 split at h
 ·
  rename_i hs
  rw [if_pos hs]
  split at h
  ·
   rename_i xs hx
   have hsc := (isScoreB_iff l).1 hs
   obtain ⟨i1, i2⟩ := tms_spec t l xs hx (fun e he => by have := hsc.1 e he; unfold okE at this; omega)
   obtain ⟨s1, s2⟩ := srtP_spec xs
   have hlen := tms_length t l xs hx
   refine ⟨(isPerfB_iff _).2 ⟨fun x hx => i1 x (s2.mem_iff.1 hx), s1.imp (fun {a b} q => ?_), ?_⟩, ?_, ?_⟩
   ·
    unfold gtP at q
    unfold leP
    omega
   ·
    show (srtP xs).length ≤ 60
    rw [srtP_length]
    omega
   ·
    show (srtP xs).length = l.length
    rw [srtP_length, hlen]
   rw [← i2]
   exact s2.map _
  cases h
 cases h
def pitchesP (l : List Pld) : List Int := l.map (fun e => e.f1)
theorem pitchesP_length (l : List Pld) : (pitchesP l).length = l.length := by unfold pitchesP; simp
theorem impl_PitchesOf.loop (l : List Pld) (hm : l.length ≤ 1048576) : ∀ (d k : Nat) (acc : List Int) (n : Nat), acc.length + l.length ≤ 2097152 + n → l.length - n ≤ d → d < k → n ≤ l.length → impl_PitchesOf.l0 k acc l l.length (n : Int) = some (acc ++ pitchesP (l.drop n)) := by
 intro d
 induction d with
 | zero =>
  intro k acc n ha hd hk hn
  obtain ⟨k, rfl⟩ : ∃ m, k = m + 1 := ⟨k - 1, by omega⟩
  simp only [impl_PitchesOf.l0]
  rw [if_neg (by omega), List.drop_of_length_le (by omega)]
  simp [pitchesP]
 | succ d ih =>
  intro k acc n ha hd hk hn
  obtain ⟨k, rfl⟩ : ∃ m, k = m + 1 := ⟨k - 1, by omega⟩
  by_cases h : n < l.length
  ·
   simp only [impl_PitchesOf.l0]
   rw [if_pos (by omega), if_pos (by omega), if_pos (by omega), if_pos (by omega), rdT49 l n h, w1 h (by omega), List.drop_eq_getElem_cons h, ih k _ (n + 1) (by simp; omega) (by omega) (by omega) (by omega)]
   simp only [pitchesP, List.map_cons, List.append_assoc, List.singleton_append]
  simp only [impl_PitchesOf.l0]
  rw [if_neg (by omega), List.drop_of_length_le (by omega)]
  simp [pitchesP]
theorem impl_PitchesOf.ok (l : List Pld) (hm : l.length ≤ 1048576) (k : Nat) (hk : l.length < k) : impl_PitchesOf.f k l = some (pitchesP l) := by
 unfold impl_PitchesOf.f
 have := impl_PitchesOf.loop l hm l.length k [] 0 (by simp; omega) (by omega) hk (by omega)
 simpa using this
def gapAt (l : List Pld) (i : Nat) : Int := wrap64 ((rd_T49 l i).f0 - (rd_T49 l ((i - 1 : Nat) : Int)).f0)
def gapsL (l : List Pld) : List Int := (List.range' 1 (l.length - 1)).map (gapAt l)
def gapsP (l : List Pld) : List Int := if isPerfB l = true then gapsL l else []
theorem gapsP_length (l : List Pld) : (gapsP l).length ≤ l.length := by
 unfold gapsP gapsL
 split <;> simp
theorem impl_GapsOf.loop (l : List Pld) (hm : l.length ≤ 1048576) : ∀ (d k : Nat) (acc : List Int) (n : Nat), acc.length ≤ n → 1 ≤ n → l.length - n = d → d < k → impl_GapsOf.l0 k l acc (n : Int) = some (acc ++ (List.range' n d).map (gapAt l)) := by
 intro d
 induction d with
 | zero =>
  intro k acc n ha hn hd hk
  obtain ⟨k, rfl⟩ : ∃ m, k = m + 1 := ⟨k - 1, by omega⟩
  simp only [impl_GapsOf.l0]
  rw [if_neg (by omega)]
  simp
 | succ d ih =>
  intro k acc n ha hn hd hk
  obtain ⟨k, rfl⟩ : ∃ m, k = m + 1 := ⟨k - 1, by omega⟩
  have h : n < l.length := by omega
  have e : wrap64 ((n : Int) - 1) = ((n - 1 : Nat) : Int) := by unfold wrap64; omega
  simp only [impl_GapsOf.l0]
  rw [if_pos (by omega), if_pos (by omega), e, if_pos (by omega), if_pos (by omega), if_pos (by omega), w1 h (by omega), ih k _ (n + 1) (by simp; omega) (by omega) (by omega) (by omega)]
  simp [List.range'_succ, gapAt]
theorem impl_GapsOf.ok (l : List Pld) (hm : l.length ≤ 1048576) (k : Nat) (hk : 2 * l.length + 5 < k) : impl_GapsOf.f k l = some (gapsP l) := by
 unfold impl_GapsOf.f gapsP
 simp only [Option.bind_some]
 rw [impl_IsPerformance.ok l (by omega) _ (by omega)]
 simp only [Option.bind_some]
 by_cases hp : isPerfB l = true
 ·
  rw [if_pos hp, if_pos hp]
  exact impl_GapsOf.loop l hm (l.length - 1) k [] 1 (by simp) (by omega) rfl (by omega)
 rw [if_neg hp, if_neg hp]
def shP (p : Int) (e : Pld) : Pld := ⟨wrap64 (e.f0 + p), e.f1⟩
def shiftP (l : List Pld) (p : Int) : List Pld × Bool := if isPerfB l = true ∧ ((-10000000 : Int) ≤ p ∧ p ≤ 10000000) then (if isPerfB (l.map (shP p)) = true then (l.map (shP p), true) else (l, false)) else (l, false)
theorem shiftP_length (l : List Pld) (p : Int) : (shiftP l p).1.length = l.length := by
 unfold shiftP
 repeat' split
 all_goals simp
theorem impl_Played_102.ok (l : List Pld) (hm : l.length ≤ 1048576) : impl_Played_102.f l = some l := by
 unfold impl_Played_102.f
 simp only [Option.bind_some, List.length_nil, List.nil_append]
 rw [if_pos (by omega)]
theorem shStep (p : Int) (acc : List Pld) (n : Nat) (hn : n < acc.length) : (acc.set n (shP p acc[n])).take (n + 1) ++ ((acc.set n (shP p acc[n])).drop (n + 1)).map (shP p) = acc.take n ++ (acc.drop n).map (shP p) := by
 rw [set_take _ _ _ hn, List.drop_set_of_lt (by omega), List.drop_eq_getElem_cons hn]
 simp only [List.map_cons, List.append_assoc, List.singleton_append]
theorem impl_ShiftAll.loop (l : List Pld) (p : Int) (hm : l.length ≤ 1048576) : ∀ (d k : Nat) (acc : List Pld) (n : Nat), acc.length ≤ 1048576 → acc.length - n ≤ d → d + acc.length + 5 < k → impl_ShiftAll.l0 k l p acc acc.length (n : Int) = some (if isPerfB (acc.take n ++ (acc.drop n).map (shP p)) = true then (acc.take n ++ (acc.drop n).map (shP p), true) else (l, false)) := by
 intro d
 induction d with
 | zero =>
  intro k acc n ha hd hk
  obtain ⟨k, rfl⟩ : ∃ m, k = m + 1 := ⟨k - 1, by omega⟩
  simp only [impl_ShiftAll.l0]
  rw [if_neg (by omega), List.drop_of_length_le (by omega), List.take_of_length_le (by omega), impl_IsPerformance.ok acc (by omega) k (by omega), impl_Played_102.ok l hm]
  simp only [Option.bind_some, List.map_nil, List.append_nil]
  split <;> rfl
 | succ d ih =>
  intro k acc n ha hd hk
  obtain ⟨k, rfl⟩ : ∃ m, k = m + 1 := ⟨k - 1, by omega⟩
  by_cases hn : n < acc.length
  ·
   simp only [impl_ShiftAll.l0]
   rw [if_pos (by omega), if_pos (by omega), if_pos (by omega), rdT49 acc n hn, w1 hn (by omega), Int.toNat_natCast]
   have e : (⟨wrap64 (acc[n].f0 + p), acc[n].f1⟩ : Pld) = shP p acc[n] := rfl
   rw [e]
   have hl : (acc.set n (shP p acc[n])).length = acc.length := by simp
   have := ih k (acc.set n (shP p acc[n])) (n + 1) (by omega) (by omega) (by omega)
   rw [hl, shStep p acc n hn] at this
   exact this
  simp only [impl_ShiftAll.l0]
  rw [if_neg (by omega), List.drop_of_length_le (by omega), List.take_of_length_le (by omega), impl_IsPerformance.ok acc (by omega) k (by omega), impl_Played_102.ok l hm]
  simp only [Option.bind_some, List.map_nil, List.append_nil]
  split <;> rfl
theorem impl_ShiftAll.ok (l : List Pld) (p : Int) (hm : l.length ≤ 1048576) (k : Nat) (hk : 2 * l.length + 20 < k) : impl_ShiftAll.f k l p = some (shiftP l p) := by
 obtain ⟨k, rfl⟩ : ∃ m, k = m + 1 := ⟨k - 1, by omega⟩
 unfold impl_ShiftAll.f shiftP
 rw [impl_Played_102.ok l hm]
 simp only [Option.bind_some]
 rw [impl_IsPerformance.ok l (by omega) _ (by omega), impl_InRange.ok]
 simp only [Option.bind_some, impl_ShiftAll.j0]
 have hl := impl_ShiftAll.loop l p hm l.length k l 0 hm (by omega) (by omega)
 simp only [List.take_zero, List.drop_zero, List.nil_append] at hl
 by_cases hs : isPerfB l = true
 ·
  by_cases hr : (-10000000 : Int) ≤ p ∧ p ≤ 10000000
  ·
   simp only [hs, hr, and_self, decide_true, Bool.not_true, Bool.false_eq_true, if_true, if_false]
   exact hl
  simp [hs, hr]
 simp [hs]
theorem spec_l11Draw.loop (b : List Int) (hb : b.length ≤ 1048576) : ∀ (d k : Nat) (acc : List Tmp) (a i h : Int), 0 ≤ i → i ≤ b.length → d < k → acc.length + d ≤ 1000 → ∃ l i' h', spec_l11Draw.l0 k acc a (d : Int) b i h = some (l, i', h') ∧ l.length = acc.length + d ∧ 0 ≤ i' ∧ i' ≤ b.length := by
 intro d
 induction d with
 | zero =>
  intro k acc a i h hi hi' hk ha
  obtain ⟨k, rfl⟩ : ∃ m, k = m + 1 := ⟨k - 1, by omega⟩
  simp only [spec_l11Draw.l0]
  rw [if_neg (by omega)]
  exact ⟨_, _, _, rfl, by omega, hi, hi'⟩
 | succ d ih =>
  intro k acc a i h hi hi' hk ha
  obtain ⟨k, rfl⟩ : ∃ m, k = m + 1 := ⟨k - 1, by omega⟩
  simp only [spec_l11Draw.l0]
  rw [if_pos (by omega)]
  obtain ⟨x1, i1, h1, e1, a1, b1, c1, d1⟩ := spec_l1Below.ok' b i h 50 (by omega) hb hi hi'
  rw [e1]
  simp only [Option.bind_some]
  obtain ⟨x2, i2, h2, e2, a2, c2, d2⟩ := spec_l1Int.ok b i1 h1 [40, 60, 72, 100, 120, 200, 77] (by simp) hb c1 d1
  rw [e2]
  simp only [Option.bind_some]
  have e : wrap64 (((d + 1 : Nat) : Int) - 1) = (d : Int) := by unfold wrap64; omega
  rw [if_pos (by omega), e]
  obtain ⟨l, i', h', e4, a4, b4, c4⟩ := ih k (acc ++ [⟨wrap64 ((wrap64 (a + 1)) + x1), x2⟩]) (wrap64 ((wrap64 (a + 1)) + x1)) i2 h2 c2 d2 (by omega) (by simp; omega)
  refine ⟨l, i', h', e4, ?_, b4, c4⟩
  rw [a4]
  simp
  omega
theorem spec_l11Draw.ok (b : List Int) (hb : b.length ≤ 1048576) (k : Nat) (hk : 40 < k) (i h : Int) (hi : 0 ≤ i) (hi' : i ≤ b.length) : ∃ l i' h', spec_l11Draw.f k b i h = some (l, i', h') ∧ 1 ≤ l.length ∧ l.length ≤ 4 ∧ 0 ≤ i' ∧ i' ≤ b.length := by
 unfold spec_l11Draw.f
 obtain ⟨x2, i2, h2, e2, a2, c2, d2⟩ := spec_l1Int.ok b i h [60, 90, 120, 50, 144] (by simp) hb hi hi'
 rw [e2]
 simp only [Option.bind_some]
 obtain ⟨x1, i1, h1, e1, a1, b1, c1, d1⟩ := spec_l1Below.ok' b i2 h2 4 (by omega) hb c2 d2
 rw [e1]
 simp only [Option.bind_some]
 obtain ⟨m, rfl⟩ := Int.eq_ofNat_of_zero_le a1
 obtain ⟨l, i', h', e4, a4, b4, c4⟩ := spec_l11Draw.loop b hb m k [⟨0, x2⟩] 0 i1 h1 c1 d1 (by omega) (by simp; omega)
 exact ⟨l, i', h', e4, by simp at a4; omega, by simp at a4; omega, b4, c4⟩
theorem spec_l11Any.ok (b : List Int) (hb : b.length ≤ 1048576) (k : Nat) (hk : 40 < k) (i h : Int) (hi : 0 ≤ i) (hi' : i ≤ b.length) : ∃ l i' h', spec_l11Any.f k b i h = some (l, i', h') ∧ l.length ≤ 4 ∧ 0 ≤ i' ∧ i' ≤ b.length := by
 unfold spec_l11Any.f
 obtain ⟨l, i1, h1, e1, a1, a1', c1, d1⟩ := spec_l11Draw.ok b hb k hk i h hi hi'
 rw [e1]
 simp only [Option.bind_some]
 obtain ⟨x2, i2, h2, e2, a2, b2, c2, d2⟩ := spec_l1Below.ok' b i1 h1 l.length (by omega) hb c1 d1
 rw [e2]
 simp only [Option.bind_some]
 obtain ⟨x3, i3, h3, e3, a3, b3, c3, d3⟩ := spec_l1Below.ok' b i2 h2 9 (by omega) hb c2 d2
 rw [e3]
 simp only [Option.bind_some]
 by_cases s0 : x3 = 0
 ·
  rw [if_pos s0]
  obtain ⟨x4, i4, h4, e4, a4, c4, d4⟩ := spec_l1Int.ok b i3 h3 [-1, 0, 2000, 2001] (by simp) hb c3 d3
  rw [e4]
  simp only [Option.bind_some]
  rw [if_pos a2, if_pos b2]
  exact ⟨_, _, _, rfl, by simp; omega, c4, d4⟩
 rw [if_neg s0]
 by_cases s1 : x3 = 1
 ·
  rw [if_pos s1]
  obtain ⟨x4, i4, h4, e4, a4, c4, d4⟩ := spec_l1Int.ok b i3 h3 [19, 20, 300, 301] (by simp) hb c3 d3
  rw [e4]
  simp only [Option.bind_some]
  rw [if_pos a2, if_pos b2]
  exact ⟨_, _, _, rfl, by simp; omega, c4, d4⟩
 rw [if_neg s1]
 by_cases s2 : x3 = 2
 ·
  rw [if_pos s2]
  exact ⟨_, _, _, rfl, by simp, c3, d3⟩
 rw [if_neg s2]
 exact ⟨_, _, _, rfl, by omega, c3, d3⟩
theorem spec_l14Draw.ok (b : List Int) (hb : b.length ≤ 1048576) (k : Nat) (hk : 1000000000001000 < k) (i h : Int) (hi : 0 ≤ i) (hi' : i ≤ b.length) : ∃ l i' h', spec_l14Draw.f k b i h = some (l, i', h') ∧ l.length ≤ 16 ∧ 0 ≤ i' ∧ i' ≤ b.length := by
 unfold spec_l14Draw.f
 obtain ⟨l, i1, h1, e1, a1, s1, c1, d1⟩ := spec_l13Score.ok b hb k (by omega) i h hi hi'
 rw [e1]
 simp only [Option.bind_some]
 obtain ⟨t, i2, h2, e2, a2, a2', c2, d2⟩ := spec_l11Draw.ok b hb k (by omega) i1 h1 c1 d1
 rw [e2]
 simp only [Option.bind_some]
 rw [spec_PlayScore.ok l t (by omega) (by omega) k (by omega)]
 simp only [Option.bind_some]
 exact ⟨_, _, _, rfl, Nat.le_trans (playSc_length l t) a1, c2, d2⟩
theorem spec_l14Any.ok (b : List Int) (hb : b.length ≤ 1048576) (k : Nat) (hk : 1000000000001000 < k) (i h : Int) (hi : 0 ≤ i) (hi' : i ≤ b.length) : ∃ l i' h', spec_l14Any.f k b i h = some (l, i', h') ∧ l.length ≤ 16 ∧ 0 ≤ i' ∧ i' ≤ b.length := by
 unfold spec_l14Any.f
 obtain ⟨l, i1, h1, e1, a1, c1, d1⟩ := spec_l14Draw.ok b hb k hk i h hi hi'
 rw [e1]
 simp only [Option.bind_some]
 by_cases h0 : (l.length : Int) = 0
 ·
  rw [if_pos h0]
  exact ⟨_, _, _, rfl, a1, c1, d1⟩
 rw [if_neg h0]
 obtain ⟨x2, i2, h2, e2, a2, b2, c2, d2⟩ := spec_l1Below.ok' b i1 h1 l.length (by omega) hb c1 d1
 rw [e2]
 simp only [Option.bind_some]
 obtain ⟨x3, i3, h3, e3, a3, b3, c3, d3⟩ := spec_l1Below.ok' b i2 h2 9 (by omega) hb c2 d2
 rw [e3]
 simp only [Option.bind_some]
 by_cases s0 : x3 = 0
 ·
  rw [if_pos s0]
  obtain ⟨x4, i4, h4, e4, a4, c4, d4⟩ := spec_l1Int.ok b i3 h3 [-1, 10000000, 10000001] (by simp) hb c3 d3
  rw [e4]
  simp only [Option.bind_some]
  rw [if_pos a2, if_pos b2]
  exact ⟨_, _, _, rfl, by simp; omega, c4, d4⟩
 rw [if_neg s0]
 by_cases s1 : x3 = 1
 ·
  rw [if_pos s1]
  obtain ⟨x4, i4, h4, e4, a4, c4, d4⟩ := spec_l1Int.ok b i3 h3 [-1, 127, 128] (by simp) hb c3 d3
  rw [e4]
  simp only [Option.bind_some]
  rw [if_pos a2, if_pos b2]
  exact ⟨_, _, _, rfl, by simp; omega, c4, d4⟩
 rw [if_neg s1]
 exact ⟨_, _, _, rfl, a1, c3, d3⟩
end Go.Proofs.Ytbhlmeghbfmgiaa.F

namespace Go.Proofs.Ytbhlmeghbfmgiaa.Pure
open Go.RowKit Go.Proofs.Ytbhlmeghbfmgiaa.F Go.Proofs.Ytbhlmeghbfmgiaa.Opened Go.Proofs.YtbhlmeghbfmgiaaW.PrintWords Go.Proofs.YtbhlmeghbfmgiaaW.PrintLast Go.Proofs.YtbhlmeghbfmgiaaW.PrintMore
set_option linter.unusedVariables false
set_option linter.unusedSimpArgs false
theorem sameLoop (x : List Int) (hm : x.length ≤ 100000) : ∀ (d k n : Nat), x.length - n ≤ d → d < k → laws_sameInts.l0 k x x (n : Int) = some true := by
 intro d
 induction d with
 | zero =>
  intro k n hd hk
  obtain ⟨k, rfl⟩ : ∃ m, k = m + 1 := ⟨k - 1, by omega⟩
  simp only [laws_sameInts.l0]
  rw [if_neg (by omega)]
 | succ d ih =>
  intro k n hd hk
  obtain ⟨k, rfl⟩ : ∃ m, k = m + 1 := ⟨k - 1, by omega⟩
  simp only [laws_sameInts.l0]
  by_cases h : n < x.length
  ·
   rw [if_pos (by omega), if_pos (by omega), if_pos (by omega), if_pos trivial, w1 h (by omega)]
   exact ih k (n + 1) (by omega) (by omega)
  rw [if_neg (by omega)]
theorem sameOk (x : List Int) (hm : x.length ≤ 100000) (k : Nat) (hk : x.length < k) : laws_sameInts.f k x x = some true := by
 unfold laws_sameInts.f
 rw [if_pos rfl]
 exact sameLoop x hm x.length k 0 (by omega) hk
theorem permSum {a b : List Int} (h : a.Perm b) : a.sum = b.sum := by
 induction h with
 | nil => rfl
 | cons x _ ih => simp [ih]
 | swap x y l => simp only [List.sum_cons]; omega
 | trans _ _ i1 i2 => exact i1.trans i2
theorem gapOk (l : List Pld) (hp : isPerfB l = true) (i : Nat) (h1 : 1 ≤ i) (h : i < l.length) : gapAt l i = l[i].f0 - (l[i - 1]'(by omega)).f0 ∧ 0 ≤ gapAt l i := by
 obtain ⟨ho, hq, hl⟩ := (isPerfB_iff l).1 hp
 have a1 := ho l[i] (List.getElem_mem h)
 have a2 := ho (l[i - 1]'(by omega)) (List.getElem_mem (by omega))
 have a3 := List.pairwise_iff_getElem.1 hq (i - 1) i (by omega) h (by omega)
 unfold okP at a1 a2
 unfold leP at a3
 unfold gapAt
 rw [rdT49 l i h, rdT49 l (i - 1) (by omega)]
 have : wrap64 (l[i].f0 - (l[i - 1]'(by omega)).f0) = l[i].f0 - (l[i - 1]'(by omega)).f0 := by unfold wrap64; omega
 rw [this]
 exact ⟨rfl, by omega⟩
theorem gapsNonneg (l : List Pld) : ∀ g ∈ gapsP l, 0 ≤ g := by
 unfold gapsP gapsL
 split
 ·
  rename_i hp
  intro g hg
  obtain ⟨i, hi, rfl⟩ := List.mem_map.1 hg
  rw [List.mem_range'_1] at hi
  exact (gapOk l hp i (by omega) (by omega)).2
 intro g hg
 cases hg
theorem gapsShift (l : List Pld) (p : Int) (h1 : isPerfB l = true) (h2 : isPerfB (l.map (shP p)) = true) (hp : (-10000000 : Int) ≤ p ∧ p ≤ 10000000) : gapsP (l.map (shP p)) = gapsP l := by
 unfold gapsP gapsL
 rw [if_pos h1, if_pos h2, List.length_map]
 refine List.map_congr_left fun i hi => ?_
 rw [List.mem_range'_1] at hi
 have hi' : i < l.length := by omega
 rw [(gapOk l h1 i (by omega) hi').1, (gapOk (l.map (shP p)) h2 i (by omega) (by simpa using hi')).1]
 have a1 := ((isPerfB_iff l).1 h1).1 l[i] (List.getElem_mem hi')
 have a2 := ((isPerfB_iff l).1 h1).1 (l[i - 1]'(by omega)) (List.getElem_mem (by omega))
 unfold okP at a1 a2
 simp only [List.getElem_map, shP]
 have e1 : wrap64 (l[i].f0 + p) = l[i].f0 + p := by unfold wrap64; omega
 have e2 : wrap64 ((l[i - 1]'(by omega)).f0 + p) = (l[i - 1]'(by omega)).f0 + p := by unfold wrap64; omega
 rw [e1, e2]
 omega
theorem pitchesShift (l : List Pld) (p : Int) : pitchesP (l.map (shP p)) = pitchesP l := by
 unfold pitchesP
 rw [List.map_map]
 rfl
theorem j3_ok (b : List Int) (hb : b.length ≤ 1048576) (k : Nat) (hk : b.length + 1000000000002000 < k) : laws_FnPerformances.j3 k b = some true := by
 obtain ⟨k, rfl⟩ : ∃ m, k = m + 1 := ⟨k - 1, by omega⟩
 simp only [laws_FnPerformances.j3]
 unfold spec_DrawShiftAll.f
 obtain ⟨h1, e1⟩ := spec_l1New.ok b (by omega) k (by omega)
 rw [e1]
 simp only [Option.bind_some]
 obtain ⟨l, i2, h2, e2, a2, c2, d2⟩ := spec_l14Any.ok b hb k (by omega) 0 h1 (by omega) (by omega)
 rw [e2]
 simp only [Option.bind_some]
 obtain ⟨p, i3, h3, e3, a3, c3, d3⟩ := spec_l1Int.ok b i2 h2 [0, 100, -1, -500, 10000000, -10000001] (by simp) hb c2 d2
 rw [e3]
 simp only [Option.bind_some]
 rw [impl_ShiftAll.ok l p (by omega) k (by omega), Option.bind_some]
 by_cases hs : (shiftP l p).2 = true
 ·
  rw [if_pos hs]
  have hlen := shiftP_length l p
  have key : gapsP (shiftP l p).1 = gapsP l ∧ pitchesP (shiftP l p).1 = pitchesP l := by
   unfold shiftP at hs ⊢
   split at hs
   ·
    rename_i c
    rw [if_pos c]
    split at hs
    ·
     rename_i c'
     rw [if_pos c']
     exact ⟨gapsShift l p c.1 c' c.2, pitchesShift l p⟩
    cases hs
   cases hs
  generalize (shiftP l p).1 = y at hlen key
  have hg := gapsP_length l
  have hq := pitchesP_length l
  rw [impl_GapsOf.ok y (by omega) k (by omega), Option.bind_some, impl_GapsOf.ok l (by omega) k (by omega), Option.bind_some, key.1]
  generalize gapsP l = G at hg
  rw [sameOk G (by omega) k (by omega), Option.bind_some, if_pos rfl]
  rw [impl_PitchesOf.ok y (by omega) k (by omega), Option.bind_some, impl_PitchesOf.ok l (by omega) k (by omega), Option.bind_some, key.2]
  generalize pitchesP l = Q at hq
  rw [sameOk Q (by omega) k (by omega), Option.bind_some]
 rw [if_neg hs]
theorem l1_ok (b : List Int) (hb : b.length ≤ 1048576) (xs : List Pld) (hx : xs.length ≤ 60) (A : Int) (G : List Int) (hG : G.length ≤ 60) (hp : ∀ g ∈ G, 0 ≤ g) : ∀ (d k n : Nat), G.length - n ≤ d → d + b.length + 1000000000003000 < k → laws_FnPerformances.l1 k b xs A A G (n : Int) = some true := by
 have fin : ∀ (k n : Nat), G.length ≤ n → b.length + 1000000000003000 ≤ k → laws_FnPerformances.l1 (k + 1) b xs A A G (n : Int) = some true := by
  intro k n hn hk
  simp only [laws_FnPerformances.l1]
  have hq := pitchesP_length xs
  rw [if_neg (by omega), if_pos trivial, impl_PitchesOf.ok xs (by omega) k (by omega), Option.bind_some, if_pos (by rw [hq])]
  exact j3_ok b hb k (by omega)
 intro d
 induction d with
 | zero =>
  intro k n hd hk
  obtain ⟨k, rfl⟩ : ∃ m, k = m + 1 := ⟨k - 1, by omega⟩
  exact fin k n (by omega) (by omega)
 | succ d ih =>
  intro k n hd hk
  obtain ⟨k, rfl⟩ : ∃ m, k = m + 1 := ⟨k - 1, by omega⟩
  by_cases h : n < G.length
  ·
   have hg := hp G[n] (List.getElem_mem h)
   simp only [laws_FnPerformances.l1]
   rw [if_pos (by omega), if_pos (by omega), rd_nat G n h, if_neg (by omega), w1 h (by omega)]
   exact ih k (n + 1) (by omega) (by omega)
  exact fin k n (by omega) (by omega)
theorem l0_ok (b : List Int) (hb : b.length ≤ 1048576) (l : List S26) (xs : List Pld) (hx : xs.length ≤ 60) (hlen : xs.length = l.length) (o1 : ∀ x ∈ xs, 0 ≤ x.f1 ∧ x.f1 ≤ 127) (o2 : ∀ e ∈ l, 0 ≤ e.f2 ∧ e.f2 ≤ 127) (A : Int) : ∀ (d k n : Nat) (s r : Int), xs.length - n ≤ d → n ≤ xs.length → d + b.length + 1000000000005000 < k → (0 ≤ s ∧ s ≤ 127 * n) → (0 ≤ r ∧ r ≤ 127 * n) → s + ((xs.drop n).map (·.f1)).sum = A → r + ((l.drop n).map (·.f2)).sum = A → laws_FnPerformances.l0 k b l xs s r (n : Int) = some true := by
 have fin : ∀ (k n : Nat) (s r : Int), xs.length = n → b.length + 1000000000005000 ≤ k → s + ((xs.drop n).map (·.f1)).sum = A → r + ((l.drop n).map (·.f2)).sum = A → laws_FnPerformances.l0 (k + 1) b l xs s r (n : Int) = some true := by
  intro k n s r hn hk h1 h2
  rw [List.drop_of_length_le (by omega)] at h1 h2
  simp only [List.map_nil, List.sum_nil, Int.add_zero] at h1 h2
  subst h1
  subst h2
  simp only [laws_FnPerformances.l0]
  have hg := gapsP_length xs
  have hn := gapsNonneg xs
  rw [if_neg (by omega), impl_GapsOf.ok xs (by omega) k (by omega), Option.bind_some]
  generalize gapsP xs = G at hg hn
  exact l1_ok b hb xs hx r G (by omega) hn G.length k 0 (by omega) (by omega)
 intro d
 induction d with
 | zero =>
  intro k n s r hd hn hk hs hr h1 h2
  obtain ⟨k, rfl⟩ : ∃ m, k = m + 1 := ⟨k - 1, by omega⟩
  exact fin k n s r (by omega) (by omega) h1 h2
 | succ d ih =>
  intro k n s r hd hn hk hs hr h1 h2
  obtain ⟨k, rfl⟩ : ∃ m, k = m + 1 := ⟨k - 1, by omega⟩
  by_cases h : n < xs.length
  ·
   have h' : n < l.length := by omega
   have p1 := o1 xs[n] (List.getElem_mem h)
   have p2 := o2 l[n] (List.getElem_mem h')
   rw [List.drop_eq_getElem_cons h, List.map_cons, List.sum_cons] at h1
   rw [List.drop_eq_getElem_cons h', List.map_cons, List.sum_cons] at h2
   simp only [laws_FnPerformances.l0]
   have w1_ : wrap64 (s + xs[n].f1) = s + xs[n].f1 := by unfold wrap64; omega
   have w2_ : wrap64 (r + l[n].f2) = r + l[n].f2 := by unfold wrap64; omega
   rw [if_pos (by omega), if_pos (by omega), if_pos (by omega), rdT49 xs n h, rdT26 l n h', w1_, w2_, w1 h (by omega)]
   exact ih k (n + 1) _ _ (by omega) (by omega) (by omega) (by omega) (by omega) (by rw [← h1]; omega) (by rw [← h2]; omega)
  exact fin k n s r (by omega) (by omega) h1 h2
theorem pure_FnPerformances (b : List Int) (hl : b.length ≤ 9223372036854775807) (hg : ∀ x ∈ b, (Lit.int .u8 x).wf = true) : ∃ k, laws_FnPerformances.f k b = some true := by
 by_cases hbig : 1048576 < b.length
 ·
  refine ⟨0, ?_⟩
  unfold laws_FnPerformances.f laws_big.f
  rw [Option.bind_some, if_pos (by simp; omega)]
 have hb : b.length ≤ 1048576 := by omega
 obtain ⟨K, hK⟩ : ∃ K : Nat, b.length + 1000000000010000 ≤ K := ⟨_, Nat.le_refl _⟩
 refine ⟨K, ?_⟩
 unfold laws_FnPerformances.f laws_big.f spec_DrawPlayScore.f
 rw [Option.bind_some, if_neg (by simp; omega)]
 obtain ⟨h1, e1⟩ := spec_l1New.ok b hl K (by omega)
 rw [e1]
 simp only [Option.bind_some]
 obtain ⟨l, i2, h2, e2, a2, c2, d2⟩ := spec_l8Any.ok b hb K (by omega) 0 h1 (by omega) (by omega)
 rw [e2]
 simp only [Option.bind_some]
 obtain ⟨t, i3, h3, e3, a3, c3, d3⟩ := spec_l11Any.ok b hb K (by omega) i2 h2 c2 d2
 rw [e3]
 simp only [Option.bind_some]
 rw [impl_PlayScore.ok l t (by omega) (by omega) K (by omega), Option.bind_some, spec_PlayScore.ok l t (by omega) (by omega) K (by omega), Option.bind_some, if_neg (by simp)]
 have hj := j3_ok b hb K (by omega)
 by_cases hp : (playSc l t).2 = true
 ·
  obtain ⟨P1, P2, P3⟩ := playSc_spec l t hp
  rw [if_pos hp]
  generalize (playSc l t).1 = xs at P1 P2 P3
  rw [impl_IsPerformance.ok xs (by omega) K (by omega), Option.bind_some, if_pos P1, show ((xs.length : Int) != (l.length : Int)) = false from by rw [P2]; simp]
  obtain ⟨k, rfl⟩ : ∃ m, K = m + 1 := ⟨K - 1, by omega⟩
  simp only [laws_FnPerformances.j0]
  rw [if_neg (by simp)]
  have o1 : ∀ x ∈ xs, 0 ≤ x.f1 ∧ x.f1 ≤ 127 := fun x hx => (((isPerfB_iff xs).1 P1).1 x hx).2
  have o2 : ∀ e ∈ l, 0 ≤ e.f2 ∧ e.f2 ≤ 127 := fun e he => by
   obtain ⟨x, hx, e⟩ := List.mem_map.1 (P3.mem_iff.2 (List.mem_map.2 ⟨e, he, rfl⟩))
   have := o1 x hx
   omega
  have := l0_ok b hb l xs (by omega) P2 o1 o2 ((xs.map (·.f1)).sum) xs.length k 0 0 0 (by omega) (by omega) (by omega) (by omega) (by omega) (by simp) (by rw [List.drop_zero, permSum P3]; simp)
  exact this
 rw [if_neg hp]
 exact hj
end Go.Proofs.Ytbhlmeghbfmgiaa.Pure
