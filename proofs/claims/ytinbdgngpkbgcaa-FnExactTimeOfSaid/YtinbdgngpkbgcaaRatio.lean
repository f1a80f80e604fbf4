/- Ratios: greatest divisors, lowest terms, sums. -/
import Derived.Test.YtinbdgngpkbgcaaInts
import Derived.Test.YtinbdgngpkbgcaaF20
import Derived.Test.YtinbdgngpkbgcaaF21
import Derived.Test.YtinbdgngpkbgcaaF22
import Derived.Test.YtinbdgngpkbgcaaF23
import Derived.Test.YtinbdgngpkbgcaaF24
import Derived.Test.YtinbdgngpkbgcaaF26
import Derived.Test.YtinbdgngpkbgcaaF28
import Derived.Test.YtinbdgngpkbgcaaF27
import Derived.Test.YtinbdgngpkbgcaaF29
import Derived.Test.YtinbdgngpkbgcaaF30
namespace Go.Proofs.Ytinbdgngpkbgcaa.F
open Go.RowKit Go.Proofs.Ytinbdgngpkbgcaa.Opened Go.Proofs.YtinbdgngpkbgcaaW.PrintWords Go.Proofs.YtinbdgngpkbgcaaW.PrintLast Go.Proofs.YtinbdgngpkbgcaaW.PrintMore
set_option linter.unusedVariables false
set_option linter.unusedSimpArgs false

def gI (n d : Int) : Int := ((Nat.gcd n.natAbs d.natAbs : Nat) : Int)
theorem gI_pos (n d : Int) (hd : 0 < d) : 0 < gI n d := by
  have : 0 < Nat.gcd n.natAbs d.natAbs := Nat.gcd_pos_of_pos_right _ (by omega)
  unfold gI
  omega
theorem gcd_step (a b : Nat) : Nat.gcd b (a % b) = Nat.gcd a b := by rw [Nat.gcd_comm b (a % b), ← Nat.gcd_rec, Nat.gcd_comm]
theorem tmod_nat (a b : Nat) : Int.tmod (a : Int) (b : Int) = ((a % b : Nat) : Int) := rfl
theorem mulB {a b : Int} {A B : Nat} (ha : a.natAbs ≤ A) (hb : b.natAbs ≤ B) : (a * b).natAbs ≤ A * B := by
  rw [Int.natAbs_mul]
  exact Nat.mul_le_mul ha hb
theorem wN {x : Int} (h : x.natAbs ≤ 9223372036854775807) : wrap64 x = x := wid (by omega) (by omega)
theorem tdivB (a b : Int) : (Int.tdiv a b).natAbs ≤ a.natAbs := by
  rw [Int.natAbs_tdiv]
  exact Nat.div_le_self _ _
theorem wT {a b : Int} (h : a.natAbs ≤ 9223372036854775807) : wrap64 (Int.tdiv a b) = Int.tdiv a b := wN (Nat.le_trans (tdivB a b) h)
theorem mxAbs {a : Int} (h : a.natAbs ≤ 9223372036854775807) : mx a (wrap64 (-a)) = (a.natAbs : Int) := by
  unfold mx wrap64
  split <;> omega
theorem spec_l4Gcd.loop : ∀ (m a b k : Nat), b ≤ m → m < k → spec_l4Gcd.l0 k (a : Int) (b : Int) = some ((Nat.gcd a b : Nat) : Int) := by
  intro m
  induction m with
  | zero =>
    intro a b k hb hk
    obtain ⟨k, rfl⟩ : ∃ m, k = m + 1 := ⟨k - 1, by omega⟩
    have : b = 0 := by omega
    subst this
    simp [spec_l4Gcd.l0]
  | succ m ih =>
    intro a b k hb hk
    obtain ⟨k, rfl⟩ : ∃ m, k = m + 1 := ⟨k - 1, by omega⟩
    by_cases h : b = 0
    · subst h
      simp [spec_l4Gcd.l0]
    · have hlt : a % b < b := Nat.mod_lt _ (by omega)
      simp only [spec_l4Gcd.l0]
      rw [if_neg (by omega), tmod_nat, ih b (a % b) k (by omega) (by omega), gcd_step]
theorem impl_divisor.loop : ∀ (m a b k : Nat), b ≤ m → m < k → impl_divisor.l0 k (a : Int) (b : Int) = some ((Nat.gcd a b : Nat) : Int) := by
  intro m
  induction m with
  | zero =>
    intro a b k hb hk
    obtain ⟨k, rfl⟩ : ∃ m, k = m + 1 := ⟨k - 1, by omega⟩
    have : b = 0 := by omega
    subst this
    simp [impl_divisor.l0]
  | succ m ih =>
    intro a b k hb hk
    obtain ⟨k, rfl⟩ : ∃ m, k = m + 1 := ⟨k - 1, by omega⟩
    by_cases h : b = 0
    · subst h
      simp [impl_divisor.l0]
    · have hlt : a % b < b := Nat.mod_lt _ (by omega)
      simp only [impl_divisor.l0]
      rw [if_neg (by omega), tmod_nat, ih b (a % b) k (by omega) (by omega), gcd_step]
theorem spec_l4Gcd.ok (n d : Int) (hd : 0 ≤ d) (k : Nat) (hk : d.natAbs < k) : spec_l4Gcd.f k (n.natAbs : Int) d = some (gI n d) := by
  obtain ⟨m, rfl⟩ := Int.eq_ofNat_of_zero_le hd
  exact spec_l4Gcd.loop m n.natAbs m k (Nat.le_refl m) (by simpa using hk)
theorem spec_l4Gcd.ok' (n d : Int) (hn : 0 ≤ n) (hd : 0 ≤ d) (k : Nat) (hk : d.natAbs < k) : spec_l4Gcd.f k n d = some (gI n d) := by
  rw [← spec_l4Gcd.ok n d hd k hk]
  congr 1
  omega
theorem impl_divisor.ok (n d : Int) (hd : 0 ≤ d) (k : Nat) (hk : d.natAbs < k) : impl_divisor.f k (n.natAbs : Int) d = some (gI n d) := by
  obtain ⟨m, rfl⟩ := Int.eq_ofNat_of_zero_le hd
  exact impl_divisor.loop m n.natAbs m k (Nat.le_refl m) (by simpa using hk)
theorem spec_l4Abs.ok (a : Int) (h : a.natAbs ≤ 9223372036854775807) : spec_l4Abs.f a = some (a.natAbs : Int) := by
  unfold spec_l4Abs.f
  have e := @wN (-a) (by omega)
  rw [e]
  split
  · congr 1
    omega
  · congr 1
    omega
/-- A ratio: bounded and in lowest terms. -/
def isRB (n d : Int) : Bool := decide (1 ≤ d ∧ d ≤ 1000000) && (decide (-1000000000 ≤ n ∧ n ≤ 1000000000) && (gI n d == 1))
theorem isRB_b {n d : Int} (h : isRB n d = true) : (1 ≤ d ∧ d ≤ 1000000) ∧ (-1000000000 ≤ n ∧ n ≤ 1000000000) ∧ gI n d = 1 := by
  unfold isRB at h
  simp only [Bool.and_eq_true, decide_eq_true_eq, beq_iff_eq] at h
  exact h
theorem spec_IsRatio.ok (n d : Int) (k : Nat) (hk : 1000000 < k) : spec_IsRatio.f k n d = some (isRB n d) := by
  unfold spec_IsRatio.f isRB
  rw [spec_l1In.ok, spec_l1In.ok]
  simp only [Option.bind_some]
  by_cases c1 : (1 : Int) ≤ d ∧ d ≤ 1000000
  · by_cases c2 : (-1000000000 : Int) ≤ n ∧ n ≤ 1000000000
    · rw [if_pos (by simpa using c1), if_pos (by simpa using c2), spec_l4Abs.ok n (by omega)]
      simp only [Option.bind_some]
      rw [spec_l4Gcd.ok n d (by omega) k (by omega)]
      simp [c1, c2]
    · rw [if_pos (by simpa using c1), if_neg (by simpa using c2)]
      simp only [c2, decide_false, Bool.false_and, Bool.and_false]
  · rw [if_neg (by simpa using c1)]
    simp only [c1, decide_false, Bool.false_and]
theorem impl_IsRatio.ok (n d : Int) (k : Nat) (hk : 1000000 < k) : impl_IsRatio.f k n d = some (isRB n d) := by
  unfold impl_IsRatio.f isRB
  rw [impl_InRange.ok, impl_InRange.ok]
  simp only [Option.bind_some]
  by_cases c1 : (1 : Int) ≤ d ∧ d ≤ 1000000
  · by_cases c2 : (-1000000000 : Int) ≤ n ∧ n ≤ 1000000000
    · rw [if_pos (by simpa using c1), if_pos (by simpa using c2), mxAbs (by omega)]
      rw [impl_divisor.ok n d (by omega) k (by omega)]
      simp [c1, c2]
    · rw [if_pos (by simpa using c1), if_neg (by simpa using c2)]
      simp only [c2, decide_false, Bool.false_and, Bool.and_false]
  · rw [if_neg (by simpa using c1)]
    simp only [c1, decide_false, Bool.false_and]
def noR : Int × Int × Bool := (0, 0, false)
/-- Lowest terms, of a positive lower number. -/
def lowC (n d : Int) : Int × Int × Bool := if isRB (Int.tdiv n (gI n d)) (Int.tdiv d (gI n d)) = true then (Int.tdiv n (gI n d), Int.tdiv d (gI n d), true) else noR
def lowP (n d : Int) : Int × Int × Bool := if d < 0 then lowC (-n) (-d) else (if d = 0 then noR else lowC n d)
theorem lowC_scale (g n d : Int) (hg : 0 < g) : lowC (g * n) (g * d) = lowC n d := by
  have e : gI (g * n) (g * d) = g * gI n d := by
    unfold gI
    rw [Int.natAbs_mul, Int.natAbs_mul, Nat.gcd_mul_left, Int.natCast_mul]
    congr 1
    omega
  unfold lowC
  rw [e, Int.mul_tdiv_mul_of_pos _ _ hg, Int.mul_tdiv_mul_of_pos _ _ hg]
theorem impl_lowest.j0_ok (n d : Int) (hn : n.natAbs ≤ 1000000000000000000) (hd : 0 ≤ d) (hd' : d ≤ 1000000000000000) (k : Nat) (hk : 1000000000000001 < k) : impl_lowest.j0 k n d = some (if d = 0 then noR else lowC n d) := by
  obtain ⟨k, rfl⟩ : ∃ m, k = m + 1 := ⟨k - 1, by omega⟩
  simp only [impl_lowest.j0]
  by_cases h0 : d = 0
  · rw [if_pos h0, if_pos h0]
    rfl
  · have hg := gI_pos n d (by omega)
    rw [if_neg h0, if_neg h0, mxAbs (by omega), impl_divisor.ok n d hd k (by omega)]
    simp only [Option.bind_some]
    rw [if_neg (by omega), wT (by omega), wT (by omega), impl_IsRatio.ok _ _ k (by omega)]
    simp only [Option.bind_some]
    unfold lowC noR
    split <;> rfl
theorem impl_lowest.ok (n d : Int) (hn : n.natAbs ≤ 1000000000000000000) (hd : d.natAbs ≤ 1000000000000000) (k : Nat) (hk : 1000000000000001 < k) : impl_lowest.f k n d = some (lowP n d) := by
  unfold impl_lowest.f lowP
  by_cases h : d < 0
  · rw [if_pos h, if_pos h, @wN (-n) (by omega), @wN (-d) (by omega), impl_lowest.j0_ok (-n) (-d) (by omega) (by omega) (by omega) k hk, if_neg (by omega)]
  · rw [if_neg h, if_neg h, impl_lowest.j0_ok n d hn (by omega) (by omega) k hk]
def makeR (n d : Int) : Int × Int × Bool := if ((-1000000000000000 : Int) ≤ n ∧ n ≤ 1000000000000000) ∧ ((-1000000000000000 : Int) ≤ d ∧ d ≤ 1000000000000000) then lowP n d else noR
theorem impl_MakeRatio.ok (n d : Int) (k : Nat) (hk : 1000000000000001 < k) : impl_MakeRatio.f k n d = some (makeR n d) := by
  unfold impl_MakeRatio.f makeR
  rw [impl_InRange.ok, impl_InRange.ok]
  simp only [Option.bind_some]
  by_cases c1 : (-1000000000000000 : Int) ≤ n ∧ n ≤ 1000000000000000
  · by_cases c2 : (-1000000000000000 : Int) ≤ d ∧ d ≤ 1000000000000000
    · rw [if_pos (by simpa using c1), if_pos (by simpa using c2), if_pos ⟨c1, c2⟩, impl_lowest.ok n d (by omega) (by omega) k hk]
      rfl
    · rw [if_pos (by simpa using c1), if_neg (by simpa using c2), if_neg (fun h => c2 h.2)]
      rfl
  · rw [if_neg (by simpa using c1), if_neg (fun h => c1 h.1)]
    rfl
theorem spec_MakeRatio.j1_ok (n d : Int) (hn : n.natAbs ≤ 1000000000000000000) (hd : 0 < d) (hd' : d ≤ 1000000000000000) (k : Nat) (hk : 1000000000000001 < k) : spec_MakeRatio.j1 k n d = some (lowC n d) := by
  obtain ⟨k, rfl⟩ : ∃ m, k = m + 1 := ⟨k - 1, by omega⟩
  have hg := gI_pos n d (by omega)
  simp only [spec_MakeRatio.j1]
  rw [spec_l4Abs.ok n (by omega)]
  simp only [Option.bind_some]
  rw [spec_l4Gcd.ok n d (by omega) k (by omega)]
  simp only [Option.bind_some]
  rw [if_neg (by omega), wT (by omega), wT (by omega), spec_IsRatio.ok _ _ k (by omega)]
  simp only [Option.bind_some]
  unfold lowC noR
  split <;> rfl
theorem spec_MakeRatio.ok (n d : Int) (k : Nat) (hk : 1000000000000002 < k) : spec_MakeRatio.f k n d = some (makeR n d) := by
  obtain ⟨k, rfl⟩ : ∃ m, k = m + 1 := ⟨k - 1, by omega⟩
  unfold spec_MakeRatio.f makeR
  rw [spec_l1In.ok, spec_l1In.ok]
  simp only [Option.bind_some, spec_MakeRatio.j0]
  by_cases c1 : (-1000000000000000 : Int) ≤ n ∧ n ≤ 1000000000000000
  · by_cases c2 : (-1000000000000000 : Int) ≤ d ∧ d ≤ 1000000000000000
    · have hc : ((-1000000000000000 : Int) ≤ n ∧ n ≤ 1000000000000000) ∧ ((-1000000000000000 : Int) ≤ d ∧ d ≤ 1000000000000000) := ⟨c1, c2⟩
      rw [if_pos (by simpa using c1), if_pos (by simpa using c2), if_pos hc]
      unfold lowP
      by_cases h0 : d = 0
      · have h0' : (d == 0) = true := by simpa using h0
        rw [if_pos h0', if_neg (by omega), if_pos h0]
        rfl
      · have h0' : ¬ (d == 0) = true := by simpa using h0
        rw [if_neg h0']
        by_cases h : d < 0
        · rw [if_pos h, if_pos h, @wN (-n) (by omega), @wN (-d) (by omega), spec_MakeRatio.j1_ok (-n) (-d) (by omega) (by omega) (by omega) k (by omega)]
        · rw [if_neg h, if_neg h, if_neg h0, spec_MakeRatio.j1_ok n d (by omega) (by omega) (by omega) k (by omega)]
    · have hc : ¬ (((-1000000000000000 : Int) ≤ n ∧ n ≤ 1000000000000000) ∧ ((-1000000000000000 : Int) ≤ d ∧ d ≤ 1000000000000000)) := fun h => c2 h.2
      rw [if_pos (by simpa using c1), if_neg (by simpa using c2), if_neg hc, if_pos trivial]
      rfl
  · have hc : ¬ (((-1000000000000000 : Int) ≤ n ∧ n ≤ 1000000000000000) ∧ ((-1000000000000000 : Int) ≤ d ∧ d ≤ 1000000000000000)) := fun h => c1 h.1
    rw [if_neg (by simpa using c1), if_neg hc, if_pos trivial]
    rfl
theorem lowC_no {n d : Int} (h : (lowC n d).2.2 = false) : lowC n d = noR := by
  unfold lowC at *
  split at h
  · simp at h
  · rename_i c
    rw [if_neg c]
theorem makeR_no {n d : Int} (h : (makeR n d).2.2 = false) : makeR n d = noR := by
  unfold makeR lowP at *
  split at h
  · rename_i c
    rw [if_pos c]
    split at h
    · rename_i c
      rw [if_pos c]
      exact lowC_no h
    · rename_i c
      rw [if_neg c]
      split at h
      · rename_i c
        rw [if_pos c]
      · rename_i c
        rw [if_neg c]
        exact lowC_no h
  · rename_i c
    rw [if_neg c]
def addR (an ad bn bd : Int) : Int × Int × Bool := if isRB an ad = true ∧ isRB bn bd = true then lowP (an * bd + bn * ad) (ad * bd) else noR
theorem impl_AddRatio.ok (an ad bn bd : Int) (k : Nat) (hk : 1000000000000001 < k) : impl_AddRatio.f k an ad bn bd = some (addR an ad bn bd) := by
  unfold impl_AddRatio.f addR
  rw [impl_IsRatio.ok an ad k (by omega), impl_IsRatio.ok bn bd k (by omega)]
  simp only [Option.bind_some]
  by_cases h1 : isRB an ad = true
  · by_cases h2 : isRB bn bd = true
    · obtain ⟨a1, a2, a3⟩ := isRB_b h1
      obtain ⟨b1, b2, b3⟩ := isRB_b h2
      have m1 : (an * bd).natAbs ≤ 1000000000 * 1000000 := mulB (by omega) (by omega)
      have m2 : (bn * ad).natAbs ≤ 1000000000 * 1000000 := mulB (by omega) (by omega)
      have m3 : (ad * bd).natAbs ≤ 1000000 * 1000000 := mulB (by omega) (by omega)
      rw [if_pos h1, if_pos h2, if_pos ⟨h1, h2⟩, wN (x := an * bd) (by omega), wN (x := bn * ad) (by omega), wN (x := ad * bd) (by omega), wN (x := an * bd + bn * ad) (by omega), impl_lowest.ok _ _ (by omega) (by omega) k hk]
      rfl
    · rw [if_pos h1, if_neg h2, if_neg (fun h => h2 h.2)]
      rfl
  · rw [if_neg h1, if_neg (fun h => h1 h.1)]
    rfl
theorem posR {g x : Int} (hg : 0 < g) (h : 0 < g * x) : 0 < x := by
  by_cases hx : 0 < x
  · exact hx
  · exfalso
    have : g * x ≤ g * 0 := Int.mul_le_mul_of_nonneg_left (by omega) (by omega)
    rw [Int.mul_zero] at this
    omega
theorem gI_dvd_left (n d : Int) : gI n d ∣ n := by
  unfold gI
  exact Int.ofNat_dvd_left.mpr (Nat.gcd_dvd_left _ _)
theorem gI_dvd_right (n d : Int) : gI n d ∣ d := by
  unfold gI
  exact Int.ofNat_dvd_left.mpr (Nat.gcd_dvd_right _ _)
theorem spec_AddRatio.ok (an ad bn bd : Int) (k : Nat) (hk : 1000000000000002 < k) : spec_AddRatio.f k an ad bn bd = some (addR an ad bn bd) := by
  obtain ⟨k, rfl⟩ : ∃ m, k = m + 1 := ⟨k - 1, by omega⟩
  unfold spec_AddRatio.f addR
  rw [spec_IsRatio.ok an ad _ (by omega), spec_IsRatio.ok bn bd _ (by omega)]
  simp only [Option.bind_some, spec_AddRatio.j0]
  by_cases h1 : isRB an ad = true
  · by_cases h2 : isRB bn bd = true
    · obtain ⟨a1, a2, a3⟩ := isRB_b h1
      obtain ⟨b1, b2, b3⟩ := isRB_b h2
      have hg := gI_pos ad bd (by omega)
      have d1 := Int.mul_tdiv_cancel' (gI_dvd_left ad bd)
      have d2 := Int.mul_tdiv_cancel' (gI_dvd_right ad bd)
      have t1 := tdivB ad (gI ad bd)
      have t2 := tdivB bd (gI ad bd)
      have hp : 0 < Int.tdiv ad (gI ad bd) * bd := by
        have : 0 < gI ad bd * Int.tdiv ad (gI ad bd) := by omega
        exact Int.mul_pos (posR hg this) (by omega)
      rw [if_pos h1, if_neg (by rw [h2]; simp), if_pos ⟨h1, h2⟩, spec_l4Gcd.ok' ad bd (by omega) (by omega) k (by omega)]
      simp only [Option.bind_some]
      rw [if_neg (by omega), wT (by omega), wT (by omega)]
      have e1 : an * bd + bn * ad = gI ad bd * (an * Int.tdiv bd (gI ad bd) + bn * Int.tdiv ad (gI ad bd)) := by
        rw [Int.mul_add, ← Int.mul_assoc, ← Int.mul_assoc, Int.mul_comm (gI ad bd) an, Int.mul_comm (gI ad bd) bn, Int.mul_assoc, Int.mul_assoc, d1, d2]
      have e2 : ad * bd = gI ad bd * (Int.tdiv ad (gI ad bd) * bd) := by rw [← Int.mul_assoc, d1]
      have hd : ¬ ad * bd < 0 := by
        have := Int.mul_pos (show 0 < ad by omega) (show 0 < bd by omega)
        omega
      have hd' : ¬ ad * bd = 0 := by
        have := Int.mul_pos (show 0 < ad by omega) (show 0 < bd by omega)
        omega
      unfold lowP
      rw [if_neg hd, if_neg hd', e1, e2, lowC_scale _ _ _ hg]
      generalize hx : Int.tdiv ad (gI ad bd) = x at *
      generalize hy : Int.tdiv bd (gI ad bd) = y at *
      have m1 : (an * y).natAbs ≤ 1000000000 * 1000000 := mulB (by omega) (by omega)
      have m2 : (bn * x).natAbs ≤ 1000000000 * 1000000 := mulB (by omega) (by omega)
      have m3 : (x * bd).natAbs ≤ 1000000 * 1000000 := mulB (by omega) (by omega)
      rw [wN (x := an * y) (by omega), wN (x := bn * x) (by omega), wN (x := x * bd) (by omega), wN (x := an * y + bn * x) (by omega), spec_l4Abs.ok _ (by omega)]
      simp only [Option.bind_some]
      rw [spec_l4Gcd.ok _ _ (by omega) k (by omega)]
      simp only [Option.bind_some]
      have hg' := gI_pos (an * y + bn * x) (x * bd) hp
      rw [if_neg (by omega), wT (by omega), wT (by omega), spec_IsRatio.ok _ _ k (by omega)]
      simp only [Option.bind_some]
      unfold lowC noR
      split <;> rfl
    · rw [if_pos h1, if_pos (by simpa using h2), if_neg (fun h => h2 h.2)]
      rfl
  · rw [if_neg h1, if_pos trivial, if_neg (fun h => h1 h.1)]
    rfl
theorem addR_no {an ad bn bd : Int} (h : (addR an ad bn bd).2.2 = false) : addR an ad bn bd = noR := by
  unfold addR lowP at *
  split at h
  · rename_i c
    rw [if_pos c]
    split at h
    · rename_i c
      rw [if_pos c]
      exact lowC_no h
    · rename_i c
      rw [if_neg c]
      split at h
      · rename_i c
        rw [if_pos c]
      · rename_i c
        rw [if_neg c]
        exact lowC_no h
  · rename_i c
    rw [if_neg c]
theorem addR_noR (an ad : Int) : addR an ad 0 0 = noR := by
  unfold addR
  rw [if_neg]
  intro h
  have := isRB_b h.2
  omega
end Go.Proofs.Ytinbdgngpkbgcaa.F
