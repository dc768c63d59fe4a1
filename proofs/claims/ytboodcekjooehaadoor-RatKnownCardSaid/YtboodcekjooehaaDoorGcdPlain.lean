/-
  The greatest common divisor found in binary, in plain words.
-/
import Derived.Test.YtboodcekjooehaaDoorNumPlain
import Derived.Lib.TrailingZeros
namespace Go.Proofs.YtboodcekjooehaaDoor
set_option linter.unusedVariables false
theorem ctz_form {x : Nat} (h0 : 0 < x) (h : x < 18446744073709551616) : ∃ m, x = 2 ^ Lib.ctz 64 x * (2 * m + 1) ∧ Lib.ctz 64 x < 64 := by
  unfold Lib.ctz
  rw [if_neg (by omega)]
  exact Lib.ctzFrom_spec 64 x h0 h
theorem two_unique : ∀ (i j m n : Nat), 2 ^ i * (2 * m + 1) = 2 ^ j * (2 * n + 1) → i = j
  | 0, 0, _, _, _ => rfl
  | 0, j + 1, m, n, h => by
    rw [Nat.pow_zero, Nat.one_mul, Nat.pow_succ, Nat.mul_comm (2 ^ j) 2, Nat.mul_assoc] at h
    omega
  | i + 1, 0, m, n, h => by
    rw [Nat.pow_zero, Nat.one_mul, Nat.pow_succ, Nat.mul_comm (2 ^ i) 2, Nat.mul_assoc] at h
    omega
  | i + 1, j + 1, m, n, h => by
    rw [Nat.pow_succ, Nat.pow_succ, Nat.mul_comm (2 ^ i) 2, Nat.mul_comm (2 ^ j) 2, Nat.mul_assoc, Nat.mul_assoc] at h
    have := two_unique i j m n (by omega)
    omega
theorem or_form (i j m n : Nat) (h : i ≤ j) : ∃ k, (2 ^ i * (2 * m + 1)) ||| (2 ^ j * (2 * n + 1)) = 2 ^ i * (2 * k + 1) := by
  have e : 2 ^ j * (2 * n + 1) = 2 ^ i * (2 ^ (j - i) * (2 * n + 1)) := by rw [← Nat.mul_assoc, ← Nat.pow_add]; congr 2; omega
  have s : ∀ z, 2 ^ i * z = z <<< i := fun z => by rw [Nat.shiftLeft_eq, Nat.mul_comm]
  rw [e, s, s, ← Nat.shiftLeft_or_distrib]
  have ho : ((2 * m + 1) ||| (2 ^ (j - i) * (2 * n + 1))) % 2 = 1 := Nat.or_mod_two_eq_one.2 (.inl (by omega))
  refine ⟨((2 * m + 1) ||| (2 ^ (j - i) * (2 * n + 1))) / 2, ?_⟩
  rw [s]
  congr 1
  omega
theorem ctz_or {x y : Nat} (hx : 0 < x) (hy : 0 < y) (h1 : x < 18446744073709551616) (h2 : y < 18446744073709551616) : Lib.ctz 64 (x ||| y) = min (Lib.ctz 64 x) (Lib.ctz 64 y) ∧ x ||| y < 18446744073709551616 ∧ 0 < x ||| y := by
  obtain ⟨m, em, _⟩ := ctz_form hx h1
  obtain ⟨n, en, _⟩ := ctz_form hy h2
  have hl : x ||| y < 18446744073709551616 := Nat.or_lt_two_pow (n := 64) h1 h2
  have hp : 0 < x ||| y := Nat.lt_of_lt_of_le hx Nat.left_le_or
  obtain ⟨k, ek, _⟩ := ctz_form hp hl
  refine ⟨?_, hl, hp⟩
  rcases Nat.le_total (Lib.ctz 64 x) (Lib.ctz 64 y) with h | h
  · obtain ⟨q, eq⟩ := or_form _ _ m n h
    rw [← em, ← en, ek] at eq
    have := two_unique _ _ _ _ eq
    omega
  · obtain ⟨q, eq⟩ := or_form _ _ n m h
    rw [← em, ← en, Nat.or_comm, ek] at eq
    have := two_unique _ _ _ _ eq
    omega
theorem odd_coprime {x : Nat} (h : x % 2 = 1) (k : Nat) : Nat.Coprime x (2 ^ k) := by
  refine Nat.Coprime.pow_right k ?_
  show Nat.gcd x 2 = 1
  rw [Nat.gcd_comm, Nat.gcd_rec, h]
  rfl
theorem gcd_odd {x : Nat} (h : x % 2 = 1) (k y : Nat) : Nat.gcd x (2 ^ k * y) = Nat.gcd x y := Nat.Coprime.gcd_mul_left_cancel_right y (odd_coprime h k).symm
/-- The odd part of a number. -/
def oddP (x : Nat) : Nat := x / 2 ^ Lib.ctz 64 x
theorem oddP_spec {x : Nat} (h0 : 0 < x) (h : x < 18446744073709551616) : x = 2 ^ Lib.ctz 64 x * oddP x ∧ oddP x % 2 = 1 ∧ oddP x ≤ x ∧ 0 < oddP x := by
  obtain ⟨m, em, _⟩ := ctz_form h0 h
  have hp : 0 < 2 ^ Lib.ctz 64 x := Nat.two_pow_pos _
  have e : oddP x = 2 * m + 1 := by
    have q : 2 ^ Lib.ctz 64 x * (2 * m + 1) / 2 ^ Lib.ctz 64 x = 2 * m + 1 := Nat.mul_div_cancel_left _ hp
    rw [← em] at q
    exact q
  rw [e]
  exact ⟨em, by omega, by have := Nat.div_le_self x (2 ^ Lib.ctz 64 x); unfold oddP at e; omega, by omega⟩
theorem gcd_oddP {x y : Nat} (hx : x % 2 = 1) (h0 : 0 < y) (h : y < 18446744073709551616) : Nat.gcd x (oddP y) = Nat.gcd x y := by
  obtain ⟨e, _, _, _⟩ := oddP_spec h0 h
  have q := gcd_odd hx (Lib.ctz 64 y) (oddP y)
  rw [← e] at q
  exact q.symm
/-- What the whole comes to. -/
theorem gcd_all {x y : Nat} (hx : 0 < x) (hy : 0 < y) (h1 : x < 18446744073709551616) (h2 : y < 18446744073709551616) : Nat.gcd (oddP x) y * 2 ^ Lib.ctz 64 (x ||| y) = Nat.gcd x y := by
  obtain ⟨ex, ox, _, _⟩ := oddP_spec hx h1
  obtain ⟨ey, oy, _, _⟩ := oddP_spec hy h2
  rw [(ctz_or hx hy h1 h2).1]
  have e1 : Nat.gcd (oddP x) y = Nat.gcd (oddP x) (oddP y) := (gcd_oddP ox hy h2).symm
  rcases Nat.le_total (Lib.ctz 64 x) (Lib.ctz 64 y) with h | h
  · rw [Nat.min_eq_left h, e1]
    have e : y = 2 ^ Lib.ctz 64 x * (2 ^ (Lib.ctz 64 y - Lib.ctz 64 x) * oddP y) := by rw [← Nat.mul_assoc, ← Nat.pow_add, Nat.add_sub_cancel' h]; exact ey
    have q := Nat.gcd_mul_left (2 ^ Lib.ctz 64 x) (oddP x) (2 ^ (Lib.ctz 64 y - Lib.ctz 64 x) * oddP y)
    rw [← ex, ← e, gcd_odd ox] at q
    rw [q, Nat.mul_comm]
  · rw [Nat.min_eq_right h, e1]
    have e : x = 2 ^ Lib.ctz 64 y * (2 ^ (Lib.ctz 64 x - Lib.ctz 64 y) * oddP x) := by rw [← Nat.mul_assoc, ← Nat.pow_add, Nat.add_sub_cancel' h]; exact ex
    have q := Nat.gcd_mul_left (2 ^ Lib.ctz 64 y) (2 ^ (Lib.ctz 64 x - Lib.ctz 64 y) * oddP x) (oddP y)
    rw [← ey, ← e, Nat.gcd_comm _ (oddP y), gcd_odd oy, Nat.gcd_comm] at q
    rw [Nat.gcd_comm x y, q, Nat.mul_comm, Nat.gcd_comm (oddP x)]
/-- At the head of the loop. -/
structure Bin (g : Nat) (x y : Nat) : Prop where
  odd : x % 2 = 1
  pos : 0 < y
  lx : x ≤ 1125899906842624
  ly : y ≤ 1125899906842624
  eq : Nat.gcd x y = g
theorem Bin.stop {g x y : Nat} (h : Bin g x y) (e : x = oddP y) : x = g := by
  have q := gcd_oddP h.odd h.pos (by have := h.ly; omega)
  rw [← e, Nat.gcd_self, h.eq] at q
  exact q
theorem Bin.less {g x y : Nat} (h : Bin g x y) (e : x < oddP y) : Bin g x (oddP y - x) := by
  obtain ⟨_, o2, o3, _⟩ := oddP_spec h.pos (by have := h.ly; omega)
  have ly := h.ly
  refine ⟨h.odd, by omega, h.lx, by omega, ?_⟩
  rw [Nat.gcd_sub_self_right (by omega), gcd_oddP h.odd h.pos (by omega), h.eq]
theorem Bin.more {g x y : Nat} (h : Bin g x y) (e : oddP y < x) : Bin g (oddP y) (x - oddP y) := by
  obtain ⟨_, o2, o3, _⟩ := oddP_spec h.pos (by have := h.ly; omega)
  have ly := h.ly
  have lx := h.lx
  refine ⟨o2, by omega, by omega, by omega, ?_⟩
  rw [Nat.gcd_sub_self_right (by omega), Nat.gcd_comm, gcd_oddP h.odd h.pos (by omega), h.eq]
def gcV (a b : Int) : Int := if inR a ∧ inR b then (Nat.gcd a.natAbs b.natAbs : Int) else 0
theorem gcV_yes {a b : Int} (h : inR a ∧ inR b) : gcV a b = (Nat.gcd a.natAbs b.natAbs : Int) := by unfold gcV; rw [if_pos h]
theorem gcV_no {a b : Int} (h : ¬ (inR a ∧ inR b)) : gcV a b = 0 := by unfold gcV; rw [if_neg h]
theorem gcV_bd (a b : Int) : 0 ≤ gcV a b ∧ gcV a b ≤ 1125899906842624 := by
  unfold gcV
  split
  · rename_i h
    obtain ⟨⟨h1, h2⟩, h3, h4⟩ := h
    by_cases e : a.natAbs = 0
    · rw [e, Nat.gcd_zero_left]; omega
    · have := Nat.gcd_le_left b.natAbs (show 0 < a.natAbs by omega)
      omega
  · decide
end Go.Proofs.YtboodcekjooehaaDoor
