/-
  Plain facts for the laws of chapter 01.
-/
import Derived.Test.YtjfjcjbjdbjlgaaDoorLcmPlain
namespace Go.Proofs.YtjfjcjbjdbjlgaaDoor
set_option linter.unusedVariables false
def nearV (n w : Int) : Int := if w % 6 = 0 then n else if w % 6 = 1 then n % 18446744073709551616 % 9 - 4 else if w % 6 = 2 then 1125899906842624 + (n % 18446744073709551616 % 9 - 4) else if w % 6 = 3 then -1125899906842624 + (n % 18446744073709551616 % 9 - 4) else if w % 6 = 4 then 33554432 + (n % 18446744073709551616 % 9 - 4) else n % 18446744073709551616 % 2251799813685248
theorem tmod_bd (n : Int) {m : Int} (h : 0 < m) : -m < n.tmod m ∧ n.tmod m < m := by
  have h1 := Int.tmod_lt_of_pos n h
  have h2 := Int.tmod_lt_of_pos (-n) h
  rw [Int.neg_tmod] at h2
  omega
theorem fd_true {a b : Int} (ha : -1125899906842624 ≤ a ∧ a ≤ 1125899906842624) (hb : 1 ≤ b ∧ b ≤ 1125899906842624) : fdB a b = true := (fd_yes (a := a) (b := b) ⟨ha, ⟨by omega, hb.2⟩, hb.1⟩).1
theorem cd_neg {a b : Int} (h : fdB a b = true) : cdV a b = -fdV (-a) b := by
  have hh : inR a ∧ inR b ∧ 1 ≤ b := of_decide_eq_true h
  obtain ⟨⟨h1, h2⟩, h3, h4⟩ := hh
  have e := fd_yes (a := -a) (b := b) ⟨⟨by omega, by omega⟩, h3, h4⟩
  have e2 := fd_yes (a := a) (b := b) ⟨⟨by omega, by omega⟩, h3, h4⟩
  rw [e2.2.2.2, e.2.1]
theorem cd_fd {a b : Int} (h : fdB a b = true) : (1 ≤ moV a b → cdV a b - fdV a b = 1) ∧ (moV a b ≤ 1 → cdV a b - fdV a b = moV a b) ∧ 0 ≤ moV a b ∧ moV a b < b := by
  have c := fd_ceil h
  have m := (fd_mod h).2
  have q := fd_split h
  by_cases z : fdV a b * b < a
  · have := c.1 z
    refine ⟨fun _ => by omega, fun _ => by omega, by omega, by omega⟩
  · have := c.2 z
    refine ⟨fun _ => by omega, fun _ => by omega, by omega, by omega⟩
theorem md_exact {a b : Int} (ha : -1125899906842624 ≤ a ∧ a ≤ 1125899906842624) (hb : 1 ≤ b ∧ b ≤ 1125899906842624) : mdB a b b = true ∧ mdV a b b = a :=
  md_yes ⟨ha, ⟨by omega, hb.2⟩, ⟨by omega, hb.2⟩, hb.1⟩ (Int.mul_ediv_cancel _ (by omega)) ha
theorem md_same {a b c : Int} (ha : -16777216 < a ∧ a < 16777216) (hb : -16777216 < b ∧ b < 16777216) (hc : 1 ≤ c ∧ c ≤ 1048576) (hp : -281474976710656 ≤ a * b ∧ a * b ≤ 281474976710656) : mdB a b c = true ∧ fdB (a * b) c = true ∧ mdV a b c = fdV (a * b) c := by
  have hi : inR (a * b) := ⟨by omega, by omega⟩
  have q := div_bd hi hc.1
  have e := fd_yes (a := a * b) (b := c) ⟨hi, ⟨by omega, by omega⟩, hc.1⟩
  have m := md_yes (a := a) (b := b) (c := c) (v := a * b / c) ⟨⟨by omega, by omega⟩, ⟨by omega, by omega⟩, ⟨by omega, by omega⟩, hc.1⟩ rfl q
  exact ⟨m.1, e.1, by rw [m.2, e.2.1]⟩
/-- A product of two numbers that are not negative, divided. -/
theorem md_nn {a b c : Int} (ha : 0 ≤ a ∧ a ≤ 1125899906842624) (hb : 0 ≤ b ∧ b ≤ c) (hc : 1 ≤ c ∧ c ≤ 1125899906842624) : mdB a b c = true ∧ mdV a b c = a * b / c ∧ 0 ≤ a * b / c ∧ a * b / c ≤ a ∧ c * (a * b / c) ≤ a * b ∧ a * b < c * (a * b / c) + c := by
  have hp := Int.mul_nonneg ha.1 hb.1
  have h1 := Int.ediv_nonneg hp (show 0 ≤ c by omega)
  have h2 : a * b ≤ a * c := Int.mul_le_mul_of_nonneg_left hb.2 ha.1
  have h3 : a * b / c ≤ a := by
    have := Int.ediv_le_ediv (show 0 < c by omega) h2
    rwa [Int.mul_ediv_cancel _ (show c ≠ 0 by omega)] at this
  have m := md_yes (a := a) (b := b) (c := c) (v := a * b / c) ⟨⟨by omega, ha.2⟩, ⟨by omega, by omega⟩, ⟨by omega, hc.2⟩, hc.1⟩ rfl ⟨by omega, by omega⟩
  have e2 := Int.mul_ediv_add_emod (a * b) c
  have e3 := Int.emod_nonneg (a * b) (show c ≠ 0 by omega)
  have e4 := Int.emod_lt_of_pos (a * b) (show 0 < c by omega)
  exact ⟨m.1, m.2, h1, h3, by omega, by omega⟩
theorem mul_lt_cancel {c x y : Int} (hc : 0 < c) (h : c * x < c * y) : x < y := Int.lt_of_mul_lt_mul_left h (by omega)
theorem large_facts {a b c low : Int} (ha : 0 ≤ a ∧ a < 1125899906842624) (hb : 0 ≤ b ∧ b < c) (hc : 1 ≤ c ∧ c ≤ 1125899906842624) (hl : 0 ≤ low ∧ low ≤ a) :
    (mdB a b c = true ∧ mdB a (b + 1) c = true ∧ mdB b a c = true ∧ mdB (-a) b c = true ∧ mdB low b c = true ∧ mdB (a - low) b c = true) ∧
    0 ≤ mdV a b c ∧ mdV a b c ≤ a ∧ mdV a b c ≤ mdV a (b + 1) c ∧ mdV a (b + 1) c ≤ a ∧ mdV b a c = mdV a b c ∧ mdV (-a) b c ≤ -mdV a b c ∧ -mdV a b c - 1 ≤ mdV (-a) b c ∧
    0 ≤ mdV low b c ∧ mdV low b c ≤ a ∧ 0 ≤ mdV (a - low) b c ∧ mdV (a - low) b c ≤ a ∧ mdV (a - low) b c + mdV low b c ≤ mdV a b c ∧ mdV a b c ≤ mdV (a - low) b c + mdV low b c + 1 := by
  have m1 := md_nn (a := a) (b := b) (c := c) (by omega) (by omega) hc
  have m2 := md_nn (a := a) (b := b + 1) (c := c) (by omega) (by omega) hc
  have m5 := md_nn (a := low) (b := b) (c := c) (by omega) (by omega) hc
  have m6 := md_nn (a := a - low) (b := b) (c := c) (by omega) (by omega) hc
  have hcc : 0 < c := by omega
  have e1 : mdB b a c = true ∧ mdV b a c = a * b / c := md_yes (a := b) (b := a) (c := c) ⟨⟨by omega, by omega⟩, ⟨by omega, by omega⟩, ⟨by omega, by omega⟩, hc.1⟩ (by rw [Int.mul_comm]) ⟨by omega, by omega⟩
  have p1 : a * (b + 1) = a * b + a := by rw [Int.mul_add, Int.mul_one]
  have p2 : (a - low) * b = a * b - low * b := Int.sub_mul ..
  have hx : a * b / c ≤ a * (b + 1) / c := Int.ediv_le_ediv hcc (by omega)
  -- the negated one
  have n0 : -a * b = -(a * b) := Int.neg_mul ..
  have n1 : -(a * b) / c ≤ -(a * b / c) ∧ -(a * b / c) - 1 ≤ -(a * b) / c := by
    have k2 := Int.mul_ediv_add_emod (-(a * b)) c
    have k3 := Int.emod_nonneg (-(a * b)) (show c ≠ 0 by omega)
    have k4 := Int.emod_lt_of_pos (-(a * b)) hcc
    have g1 : c * (-(a * b) / c) < c * (-(a * b / c) + 1) := by rw [Int.mul_add, Int.mul_neg, Int.mul_one]; omega
    have g2 : c * (-(a * b / c) - 1 - 1) < c * (-(a * b) / c) := by rw [Int.mul_sub, Int.mul_sub, Int.mul_neg, Int.mul_one]; omega
    have := mul_lt_cancel hcc g1
    have := mul_lt_cancel hcc g2
    omega
  have e4 : mdB (-a) b c = true ∧ mdV (-a) b c = -(a * b) / c := md_yes (a := -a) (b := b) (c := c) ⟨⟨by omega, by omega⟩, ⟨by omega, by omega⟩, ⟨by omega, by omega⟩, hc.1⟩ (by rw [n0]) ⟨by omega, by omega⟩
  -- the split
  have s1 : (a - low) * b / c + low * b / c ≤ a * b / c := by
    have g : c * ((a - low) * b / c + low * b / c) < c * (a * b / c + 1) := by rw [Int.mul_add, Int.mul_add, Int.mul_one]; omega
    have := mul_lt_cancel hcc g
    omega
  have s2 : a * b / c ≤ (a - low) * b / c + low * b / c + 1 := by
    have g : c * (a * b / c) < c * ((a - low) * b / c + low * b / c + 2) := by rw [Int.mul_add, Int.mul_add]; omega
    have := mul_lt_cancel hcc g
    omega
  rw [m1.2.1, m2.2.1, m5.2.1, m6.2.1, e1.2, e4.2]
  exact ⟨⟨m1.1, m2.1, e1.1, e4.1, m5.1, m6.1⟩, m1.2.2.1, m1.2.2.2.1, hx, m2.2.2.2.1, rfl, n1.1, n1.2, m5.2.2.1, by omega, m6.2.2.1, by omega, s1, s2⟩
/-- Two numbers with a common factor. -/
theorem share_facts {a b k p q : Int} (hk : 1 ≤ k ∧ k ≤ 32) (hp : 1 ≤ p ∧ p ≤ 1048576) (hq : 1 ≤ q ∧ q ≤ 1048576) (ea : a = k * p) (eb : b = k * q) :
    1 ≤ a ∧ a ≤ 33554432 ∧ 1 ≤ b ∧ b ≤ 33554432 ∧ 1 ≤ gcV a b ∧ gcV a b ≤ a ∧ a % gcV a b = 0 ∧ b % gcV a b = 0 ∧ gcV a b % k = 0 ∧ gcV b (-a) = gcV a b ∧ gcV (a / gcV a b) (b / gcV a b) = 1 ∧ lcV [a, b] = a / gcV a b * b ∧ lcB [a, b] = true ∧ 1 ≤ a / gcV a b ∧ a / gcV a b ≤ 33554432 ∧ 0 ≤ b / gcV a b ∧ b / gcV a b ≤ 33554432 := by
  have ha1 : 1 * 1 ≤ k * p := Int.mul_le_mul hk.1 hp.1 (by decide) (by omega)
  have ha2 : k * p ≤ 32 * 1048576 := Int.mul_le_mul hk.2 hp.2 (by omega) (by decide)
  have hb1 : 1 * 1 ≤ k * q := Int.mul_le_mul hk.1 hq.1 (by decide) (by omega)
  have hb2 : k * q ≤ 32 * 1048576 := Int.mul_le_mul hk.2 hq.2 (by omega) (by decide)
  have ba : 1 ≤ a ∧ a ≤ 33554432 := by omega
  have bb : 1 ≤ b ∧ b ≤ 33554432 := by omega
  have ia : inR a := ⟨by omega, by omega⟩
  have ib : inR b := ⟨by omega, by omega⟩
  obtain ⟨g1, g2, g3, g4⟩ := gcV_pos (m := a) (n := b) ⟨by omega, by omega⟩ ib
  have eg := gcV_yes ⟨ia, ib⟩
  have hkd : k ∣ gcV a b := by
    rw [eg]
    have h1 : k.natAbs ∣ a.natAbs := Int.natAbs_dvd_natAbs.2 ⟨p, ea⟩
    have h2 : k.natAbs ∣ b.natAbs := Int.natAbs_dvd_natAbs.2 ⟨q, eb⟩
    have := Int.natCast_dvd_natCast.2 (Nat.dvd_gcd h1 h2)
    rwa [Int.natAbs_of_nonneg (show 0 ≤ k by omega)] at this
  have hrev : gcV b (-a) = gcV a b := by
    rw [eg, gcV_yes ⟨ib, ⟨by omega, by omega⟩⟩, Int.natAbs_neg, Nat.gcd_comm]
  have da := Int.ediv_le_self (gcV a b) (show 0 ≤ a by omega)
  have db := Int.ediv_le_self (gcV a b) (show 0 ≤ b by omega)
  have d1 : 1 ≤ a / gcV a b := (Int.le_ediv_iff_mul_le (by omega)).2 (by omega)
  have d2 : 0 ≤ b / gcV a b := Int.ediv_nonneg (by omega) (by omega)
  have hone : gcV (a / gcV a b) (b / gcV a b) = 1 := by
    rw [gcV_yes ⟨⟨by omega, by omega⟩, ⟨by omega, by omega⟩⟩, eg]
    have n1 : (a / ((Nat.gcd a.natAbs b.natAbs : Nat) : Int)).natAbs = a.natAbs / Nat.gcd a.natAbs b.natAbs := by
      have : a = ((a.natAbs : Nat) : Int) := by omega
      rw [this]
      simp only [Int.natAbs_natCast]
      rw [← Int.natCast_ediv, Int.natAbs_natCast]
    have n2 : (b / ((Nat.gcd a.natAbs b.natAbs : Nat) : Int)).natAbs = b.natAbs / Nat.gcd a.natAbs b.natAbs := by
      have : b = ((b.natAbs : Nat) : Int) := by omega
      rw [this]
      simp only [Int.natAbs_natCast]
      rw [← Int.natCast_ediv, Int.natAbs_natCast]
    rw [n1, n2, Nat.gcd_div (Nat.gcd_dvd_left _ _) (Nat.gcd_dvd_right _ _), Nat.div_self (Nat.gcd_pos_of_pos_left _ (by omega))]
    rfl
  have hmul : a / gcV a b * b ≤ 33554432 * 33554432 := Int.mul_le_mul (by omega) bb.2 (by omega) (by decide)
  have first : (1 : Int) / gcV 1 a * a = a := by
    have h := gcV_pos (m := 1) (n := a) (by omega) ia
    have e1 : gcV 1 a = 1 := by omega
    rw [e1]
    simp
  have hl : lcF 1 [a, b] = some (a / gcV a b * b) := by
    rw [lcF, if_pos ⟨ba.1, by omega, by rw [first]; omega⟩, first, lcF, if_pos ⟨bb.1, by omega, by omega⟩]
    rfl
  refine ⟨ba.1, ba.2, bb.1, bb.2, g1, g2, Int.emod_eq_zero_of_dvd g3, Int.emod_eq_zero_of_dvd g4, Int.emod_eq_zero_of_dvd hkd, hrev, hone, ?_, ?_, d1, by omega, d2, by omega⟩
  · unfold lcV; rw [hl]; rfl
  · unfold lcB; rw [hl]; rfl
end Go.Proofs.YtjfjcjbjdbjlgaaDoor
