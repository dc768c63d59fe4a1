/-
  Fractions in plain words.
-/
import Derived.Test.YtboodcekjooehaaDoorLcmPlain
namespace Go.Proofs.YtboodcekjooehaaDoor
set_option linter.unusedVariables false
def raE (n d : Int) : Int := if 1 ≤ d ∧ d ≤ 1073741824 ∧ -1073741824 ≤ n ∧ n ≤ 1073741824 ∧ Nat.gcd n.natAbs d.natAbs = 1 then 0 else 120
theorem raE_ok {n d : Int} (h : raE n d = 0) : 1 ≤ d ∧ d ≤ 1073741824 ∧ -1073741824 ≤ n ∧ n ≤ 1073741824 ∧ Nat.gcd n.natAbs d.natAbs = 1 := by
  unfold raE at h
  split at h
  · assumption
  · cases h
theorem raE_yes {n d : Int} (h : 1 ≤ d ∧ d ≤ 1073741824 ∧ -1073741824 ≤ n ∧ n ≤ 1073741824 ∧ Nat.gcd n.natAbs d.natAbs = 1) : raE n d = 0 := by unfold raE; rw [if_pos h]
theorem raE_no {n d : Int} (h : ¬ raE n d = 0) : raE n d = 120 := by
  unfold raE at *
  split at h
  · exact absurd rfl h
  · rename_i q; rw [if_neg q]
theorem raE_not {n d : Int} (h : ¬ (1 ≤ d ∧ d ≤ 1073741824 ∧ -1073741824 ≤ n ∧ n ≤ 1073741824 ∧ Nat.gcd n.natAbs d.natAbs = 1)) : raE n d = 120 := by unfold raE; rw [if_neg h]
def rg (n d : Int) : Int := (Nat.gcd n.natAbs d.natAbs : Int)
def rN (n d : Int) : Int := if d < 0 then -(n / rg n d) else n / rg n d
def rD (n d : Int) : Int := if d < 0 then -(d / rg n d) else d / rg n d
def wide (n : Int) : Prop := -4611686018427387904 ≤ n ∧ n ≤ 4611686018427387904
instance (n : Int) : Decidable (wide n) := by unfold wide; infer_instance
def rmE (n d : Int) : Int := if d = 0 then 2 else if wide n ∧ wide d then (if raE (rN n d) (rD n d) = 0 then 0 else 6) else 6
def rmN (n d : Int) : Int := if rmE n d = 0 then rN n d else 0
def rmD (n d : Int) : Int := if rmE n d = 0 then rD n d else 0
theorem rm_no {n d e : Int} (h : rmE n d = e) (he : e ≠ 0) : rmE n d = e ∧ rmN n d = 0 ∧ rmD n d = 0 := ⟨h, by unfold rmN; rw [if_neg (by rw [h]; exact he)], by unfold rmD; rw [if_neg (by rw [h]; exact he)]⟩
theorem rm_2 {n d : Int} (h : d = 0) : rmE n d = 2 ∧ rmN n d = 0 ∧ rmD n d = 0 := rm_no (by unfold rmE; rw [if_pos h]) (by decide)
theorem rm_6 {n d : Int} (h : ¬ d = 0) (hw : ¬ (wide n ∧ wide d)) : rmE n d = 6 ∧ rmN n d = 0 ∧ rmD n d = 0 := rm_no (by unfold rmE; rw [if_neg h, if_neg hw]) (by decide)
theorem rm_66 {n d : Int} (h : ¬ d = 0) (hw : wide n ∧ wide d) (hr : ¬ raE (rN n d) (rD n d) = 0) : rmE n d = 6 ∧ rmN n d = 0 ∧ rmD n d = 0 := rm_no (by unfold rmE; rw [if_neg h, if_pos hw, if_neg hr]) (by decide)
theorem rm_0 {n d : Int} (h : ¬ d = 0) (hw : wide n ∧ wide d) (hr : raE (rN n d) (rD n d) = 0) : rmE n d = 0 ∧ rmN n d = rN n d ∧ rmD n d = rD n d := by
  have e : rmE n d = 0 := by unfold rmE; rw [if_neg h, if_pos hw, if_pos hr]
  exact ⟨e, by unfold rmN; rw [if_pos e], by unfold rmD; rw [if_pos e]⟩
theorem rg_pos {n d : Int} (h : ¬ d = 0) : 0 < rg n d := by
  have := Nat.gcd_pos_of_pos_right n.natAbs (show 0 < d.natAbs by omega)
  unfold rg
  omega
theorem rg_n (n d : Int) : rg n d ∣ n := Int.ofNat_dvd_left.2 (Nat.gcd_dvd_left _ _)
theorem rg_d (n d : Int) : rg n d ∣ d := Int.ofNat_dvd_left.2 (Nat.gcd_dvd_right _ _)
theorem rg_le {n d : Int} (h : ¬ d = 0) : rg n d ≤ (d.natAbs : Int) := by
  have := Nat.gcd_le_right n.natAbs (show 0 < d.natAbs by omega)
  unfold rg
  omega
theorem tdiv_ex {n g : Int} (h : g ∣ n) : n.tdiv g = n / g := Int.tdiv_eq_ediv_of_dvd h
/-- The program's quotients. -/
theorem quo_pos {n d : Int} (h : ¬ d < 0) : n.tdiv (rg n d) = rN n d ∧ d.tdiv (rg n d) = rD n d := by
  unfold rN rD
  rw [if_neg h, if_neg h, tdiv_ex (rg_n n d), tdiv_ex (rg_d n d)]
  exact ⟨rfl, rfl⟩
theorem quo_neg {n d : Int} (h : d < 0) : n.tdiv (-rg n d) = rN n d ∧ d.tdiv (-rg n d) = rD n d := by
  unfold rN rD
  rw [if_pos h, if_pos h, Int.tdiv_neg, Int.tdiv_neg, tdiv_ex (rg_n n d), tdiv_ex (rg_d n d)]
  exact ⟨rfl, rfl⟩
theorem quo_ref {n d : Int} (h : d < 0) : (-n).tdiv (rg n d) = rN n d ∧ (-d).tdiv (rg n d) = rD n d := by
  unfold rN rD
  rw [if_pos h, if_pos h, Int.neg_tdiv, Int.neg_tdiv, tdiv_ex (rg_n n d), tdiv_ex (rg_d n d)]
  exact ⟨rfl, rfl⟩
theorem abs_div {n g : Int} (hg : 0 < g) (h : g ∣ n) : -(n.natAbs : Int) ≤ n / g ∧ n / g ≤ (n.natAbs : Int) := by
  obtain ⟨q, hq⟩ := h
  have e : n / g = q := by
    have := Int.mul_ediv_cancel_left q (show g ≠ 0 by omega)
    rw [← hq] at this
    exact this
  rw [e]
  have h1 : n.natAbs = g.natAbs * q.natAbs := by rw [hq, Int.natAbs_mul]
  have h2 : 1 * q.natAbs ≤ g.natAbs * q.natAbs := Nat.mul_le_mul_right _ (by omega)
  omega
theorem rN_bd {n d : Int} (h : ¬ d = 0) : -(n.natAbs : Int) ≤ rN n d ∧ rN n d ≤ (n.natAbs : Int) := by
  have := abs_div (rg_pos (n := n) h) (rg_n n d)
  unfold rN
  split <;> omega
theorem rD_bd {n d : Int} (h : ¬ d = 0) : -(d.natAbs : Int) ≤ rD n d ∧ rD n d ≤ (d.natAbs : Int) := by
  have := abs_div (rg_pos (n := n) h) (rg_d n d)
  unfold rD
  split <;> omega
theorem tmod_abs (x y : Int) : (x.tmod y).natAbs = x.natAbs % y.natAbs := Int.natAbs_tmod x y
theorem gcd_tmod (x y : Int) : Nat.gcd y.natAbs (x.tmod y).natAbs = Nat.gcd x.natAbs y.natAbs := by rw [tmod_abs, gcd_step]
/-- The numerator over the denominator is what it was. -/
theorem rm_val {n d : Int} (h : ¬ d = 0) : rN n d * d = n * rD n d := by
  obtain ⟨p, hp⟩ := rg_n n d
  obtain ⟨q, hq⟩ := rg_d n d
  have hg := rg_pos (n := n) h
  have e1 : n / rg n d = p := by
    have := Int.mul_ediv_cancel_left p (show rg n d ≠ 0 by omega)
    rw [← hp] at this
    exact this
  have e2 : d / rg n d = q := by
    have := Int.mul_ediv_cancel_left q (show rg n d ≠ 0 by omega)
    rw [← hq] at this
    exact this
  unfold rN rD
  rw [e1, e2]
  have key : p * d = n * q := by
    have a1 : p * d = p * (rg n d * q) := by rw [← hq]
    have a2 : n * q = rg n d * p * q := by rw [← hp]
    rw [a1, a2, ← Int.mul_assoc, Int.mul_comm p]
  split
  · rw [Int.neg_mul, Int.mul_neg, key]
  · exact key
theorem rm_gcd {n d : Int} (h : ¬ d = 0) : Nat.gcd (rN n d).natAbs (rD n d).natAbs = 1 ∧ 0 < rD n d := by
  have hg : 0 < Nat.gcd n.natAbs d.natAbs := Nat.gcd_pos_of_pos_right n.natAbs (show 0 < d.natAbs by omega)
  have ab : ∀ z : Int, rg n d ∣ z → (z / rg n d).natAbs = z.natAbs / Nat.gcd n.natAbs d.natAbs := by
    intro z hz
    obtain ⟨q, hq⟩ := hz
    have hp := rg_pos (n := n) h
    have e : z / rg n d = q := by
      have := Int.mul_ediv_cancel_left q (show rg n d ≠ 0 by omega)
      rw [← hq] at this
      exact this
    have e2 : z.natAbs = Nat.gcd n.natAbs d.natAbs * q.natAbs := by
      rw [hq, Int.natAbs_mul]
      congr 1
    rw [e, e2, Nat.mul_div_cancel_left _ hg]
  have hn : (rN n d).natAbs = n.natAbs / Nat.gcd n.natAbs d.natAbs := by
    unfold rN
    split
    · rw [Int.natAbs_neg]; exact ab n (rg_n n d)
    · exact ab n (rg_n n d)
  have hd : (rD n d).natAbs = d.natAbs / Nat.gcd n.natAbs d.natAbs := by
    unfold rD
    split
    · rw [Int.natAbs_neg]; exact ab d (rg_d n d)
    · exact ab d (rg_d n d)
  refine ⟨?_, ?_⟩
  · rw [hn, hd, Nat.gcd_div (Nat.gcd_dvd_left _ _) (Nat.gcd_dvd_right _ _), Nat.div_self hg]
  · have hpos : 0 < (rD n d).natAbs := by
      rw [hd]
      exact Nat.div_pos (Nat.gcd_le_right _ (by omega)) hg
    have hp := rg_pos (n := n) h
    obtain ⟨q, hq⟩ := rg_d n d
    have e : d / rg n d = q := by
      have := Int.mul_ediv_cancel_left q (show rg n d ≠ 0 by omega)
      rw [← hq] at this
      exact this
    unfold rD at hpos ⊢
    rw [e] at hpos ⊢
    split
    · rename_i hneg
      rcases Int.lt_or_le q 0 with z | z
      · omega
      · have := Int.mul_nonneg (show 0 ≤ rg n d by omega) z
        omega
    · rename_i hneg
      rcases Int.lt_or_le 0 q with z | z
      · exact z
      · have := Int.mul_nonneg (show 0 ≤ rg n d by omega) (show 0 ≤ -q by omega)
        rw [Int.mul_neg] at this
        omega
/-- A fraction in lowest terms is one. -/
theorem rat_unique {a b c d : Int} (h1 : Nat.gcd a.natAbs b.natAbs = 1) (h2 : Nat.gcd c.natAbs d.natAbs = 1) (hb : 0 < b) (hd : 0 < d) (h : a * d = c * b) : a = c ∧ b = d := by
  have hn : a.natAbs * d.natAbs = c.natAbs * b.natAbs := by rw [← Int.natAbs_mul, ← Int.natAbs_mul, h]
  have d1 : b.natAbs ∣ d.natAbs := by
    have : b.natAbs ∣ a.natAbs * d.natAbs := ⟨c.natAbs, by rw [hn, Nat.mul_comm]⟩
    exact Nat.Coprime.dvd_of_dvd_mul_left (show Nat.Coprime b.natAbs a.natAbs from by unfold Nat.Coprime; rw [Nat.gcd_comm]; exact h1) this
  have d2 : d.natAbs ∣ b.natAbs := by
    have : d.natAbs ∣ c.natAbs * b.natAbs := ⟨a.natAbs, by rw [← hn, Nat.mul_comm]⟩
    exact Nat.Coprime.dvd_of_dvd_mul_left (show Nat.Coprime d.natAbs c.natAbs from by unfold Nat.Coprime; rw [Nat.gcd_comm]; exact h2) this
  have e : b.natAbs = d.natAbs := Nat.dvd_antisymm d1 d2
  have e2 : b = d := by omega
  refine ⟨?_, e2⟩
  rw [e2] at h
  exact Int.eq_of_mul_eq_mul_right (by omega) h
def rcV (a b c d : Int) : Int := if a * d < c * b then -1 else if a * d = c * b then 0 else 1
theorem rat_eq {a b c d : Int} (h1 : raE a b = 0) (h2 : raE c d = 0) : a * d = c * b ↔ a = c ∧ b = d := by
  have q1 := raE_ok h1
  have q2 := raE_ok h2
  constructor
  · exact fun h => rat_unique q1.2.2.2.2 q2.2.2.2.2 (by omega) (by omega) h
  · rintro ⟨rfl, rfl⟩; rfl
theorem fd_rat {n d : Int} (h : raE n d = 0) : fdB n d = true := by
  have q := raE_ok h
  exact (fd_yes (a := n) (b := d) ⟨⟨by omega, by omega⟩, ⟨by omega, by omega⟩, q.1⟩).1
end Go.Proofs.YtboodcekjooehaaDoor
