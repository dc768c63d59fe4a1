/-
  Knuth's long division with two digits, in plain numbers: what the loops of math/bits.Div64 keep.
-/
namespace Go.Proofs.Ytoighcbbaacnaaa
/-- What holds at the head of the loop that betters a quotient's digit. -/
structure Knuth (u32 u1 yn1 yn0 q r : Nat) : Prop where
  e : u32 = q * yn1 + r
  le : (u32 * 4294967296 + u1) / (yn1 * 4294967296 + yn0) ≤ q
  top : q ≤ 4294967297

structure KnuthIn (u32 u1 yn1 yn0 : Nat) : Prop where
  h1 : 2147483648 ≤ yn1
  h2 : yn1 < 4294967296
  h3 : yn0 < 4294967296
  h4 : u1 < 4294967296
  h5 : u32 < yn1 * 4294967296 + yn0

section
variable {u32 u1 yn1 yn0 q r : Nat}
theorem Knuth.start (I : KnuthIn u32 u1 yn1 yn0) : Knuth u32 u1 yn1 yn0 (u32 / yn1) (u32 % yn1) := by
  obtain ⟨h1, h2, h3, h4, h5⟩ := I
  have e := Nat.div_add_mod' u32 yn1
  have hlt := Nat.mod_lt u32 (show yn1 > 0 by omega)
  refine ⟨by omega, ?_, ?_⟩
  · refine Nat.le_of_lt_succ ((Nat.div_lt_iff_lt_mul (by omega)).2 ?_)
    -- u32*K + u1 < (q+1) * (yn1*K+yn0)
    have h : u32 + 1 ≤ (u32 / yn1 + 1) * yn1 := by rw [Nat.add_mul]; omega
    have h' : (u32 + 1) * 4294967296 ≤ (u32 / yn1 + 1) * yn1 * 4294967296 := Nat.mul_le_mul_right _ h
    rw [Nat.succ_eq_add_one, Nat.mul_add, ← Nat.mul_assoc]
    omega
  · refine Nat.le_of_lt_succ ((Nat.div_lt_iff_lt_mul (by omega)).2 ?_)
    omega
theorem Knuth.test (k : Knuth u32 u1 yn1 yn0 q r) : q * yn0 > 4294967296 * r + u1 ↔ u32 * 4294967296 + u1 < q * (yn1 * 4294967296 + yn0) := by
  have e := k.e
  have e2 : u32 * 4294967296 = q * yn1 * 4294967296 + r * 4294967296 := by rw [e, Nat.add_mul]
  rw [Nat.mul_add, ← Nat.mul_assoc]
  omega
theorem Knuth.step (I : KnuthIn u32 u1 yn1 yn0) (k : Knuth u32 u1 yn1 yn0 q r) (h : 4294967296 ≤ q ∨ 4294967296 * r + u1 < q * yn0) :
    1 ≤ q ∧ q - 1 ≤ 4294967296 ∧ Knuth u32 u1 yn1 yn0 (q - 1) (r + yn1) := by
  have t := k.test
  have top := k.top
  have hY : 0 < yn1 * 4294967296 + yn0 := by have := I.h1; omega
  have hlt : (u32 * 4294967296 + u1) / (yn1 * 4294967296 + yn0) < q := by
    rcases h with h | h
    · refine Nat.lt_of_lt_of_le ((Nat.div_lt_iff_lt_mul hY).2 ?_) h
      have := I.h5; have := I.h4
      omega
    · exact (Nat.div_lt_iff_lt_mul hY).2 (t.1 h)
  have h1 : 1 ≤ q := Nat.lt_of_le_of_lt (Nat.zero_le _) hlt
  refine ⟨h1, by omega, ?_, Nat.le_sub_one_of_lt hlt, by omega⟩
  have e := k.e
  obtain ⟨q', rfl⟩ : ∃ q', q = q' + 1 := ⟨q - 1, by omega⟩
  rw [Nat.add_mul] at e
  simp
  omega
theorem Knuth.stop (I : KnuthIn u32 u1 yn1 yn0) (k : Knuth u32 u1 yn1 yn0 q r) (h : q * yn0 ≤ 4294967296 * r + u1) :
    q = (u32 * 4294967296 + u1) / (yn1 * 4294967296 + yn0) := by
  have t := k.test
  have hY : 0 < yn1 * 4294967296 + yn0 := by have := I.h1; omega
  refine Nat.le_antisymm ?_ k.le
  exact (Nat.le_div_iff_mul_le hY).2 (by omega)
theorem Knuth.out (I : KnuthIn u32 u1 yn1 yn0) (k : Knuth u32 u1 yn1 yn0 q r) (hq : q ≤ 4294967296) (h : 4294967296 ≤ r) :
    q = (u32 * 4294967296 + u1) / (yn1 * 4294967296 + yn0) := by
  refine k.stop I ?_
  have h3 := I.h3
  have : q * yn0 ≤ 4294967296 * 4294967295 := Nat.mul_le_mul hq (by omega)
  omega
end

/-- Two digits of a quotient, one behind the other. -/
theorem two_digits (K N u0 Y : Nat) (hY : 0 < Y) :
    N / Y * K + (N % Y * K + u0) / Y = (N * K + u0) / Y ∧ (N % Y * K + u0) % Y = (N * K + u0) % Y := by
  have e := Nat.div_add_mod' N Y
  have e2 : N * K + u0 = (N % Y * K + u0) + Y * (N / Y * K) := by
    have : N * K = (N / Y * Y + N % Y) * K := by rw [e]
    rw [this, Nat.add_mul, Nat.mul_comm (N / Y) Y, ← Nat.mul_assoc]
    omega
  constructor
  · rw [e2, Nat.add_mul_div_left _ _ hY]
    omega
  · rw [e2, Nat.add_mul_mod_self_left]
theorem or_low (x c l : Nat) (h : l < 2 ^ c) : x * 2 ^ c ||| l = x * 2 ^ c + l := by
  rw [Nat.mul_comm, ← Nat.two_pow_add_eq_or_of_lt h]

/-- What the head of Div64 computes, as numbers: s places to the left. -/
structure Shifted (hi lo y s Y a b H U L u1 u0 : Nat) : Prop where
  hY : Y = y * 2 ^ s
  Y1 : 9223372036854775808 ≤ Y
  Y2 : Y < 18446744073709551616
  ha : a = Y / 4294967296
  hb : b = Y % 4294967296
  hH : H = hi * 2 ^ s
  HY : H < Y
  hU : U = H + lo / 2 ^ (64 - s)
  UY : U < Y
  hL : L = lo * 2 ^ s % 18446744073709551616
  h1 : u1 = L / 4294967296
  h0 : u0 = L % 4294967296
  all : (U * 4294967296 + u1) * 4294967296 + u0 = (hi * 18446744073709551616 + lo) * 2 ^ s
  or : H ||| lo / 2 ^ (64 - s) = U
  lo2 : lo / 2 ^ (64 - s) < 18446744073709551616

theorem shifted (hi lo y s : Nat) (h1 : hi < y) (hy1 : 2 ^ (63 - s) ≤ y) (hy2 : y < 2 ^ (64 - s)) (hs : s < 64) (hl : lo < 18446744073709551616) :
    ∃ Y a b H U L u1 u0, Shifted hi lo y s Y a b H U L u1 u0 := by
  have e64 : 2 ^ (64 - s) * 2 ^ s = 18446744073709551616 := by rw [← Nat.pow_add, Nat.sub_add_cancel (by omega)]
  have e63 : 2 ^ (63 - s) * 2 ^ s = 9223372036854775808 := by rw [← Nat.pow_add, Nat.sub_add_cancel (by omega)]
  have hp : 0 < 2 ^ s := Nat.two_pow_pos s
  have hq : 0 < 2 ^ (64 - s) := Nat.two_pow_pos _
  have k1 : 2 ^ (63 - s) * 2 ^ s ≤ y * 2 ^ s := Nat.mul_le_mul_right _ hy1
  have k2 : y * 2 ^ s < 2 ^ (64 - s) * 2 ^ s := Nat.mul_lt_mul_of_pos_right hy2 hp
  have k3 : (hi + 1) * 2 ^ s ≤ y * 2 ^ s := Nat.mul_le_mul_right _ h1
  rw [Nat.add_mul, Nat.one_mul] at k3
  have k4 : lo / 2 ^ (64 - s) < 2 ^ s := (Nat.div_lt_iff_lt_mul hq).2 (by rw [Nat.mul_comm, e64]; exact hl)
  have k5 : 2 ^ s ≤ 18446744073709551616 := by rw [← e64]; exact Nat.le_mul_of_pos_left _ hq
  have k6 : lo * 2 ^ s = lo / 2 ^ (64 - s) * 18446744073709551616 + lo * 2 ^ s % 18446744073709551616 := by
    have e1 : lo * 2 ^ s / (2 ^ (64 - s) * 2 ^ s) = lo / 2 ^ (64 - s) := Nat.mul_div_mul_right _ _ hp
    rw [e64] at e1
    have := Nat.div_add_mod' (lo * 2 ^ s) 18446744073709551616
    rw [e1] at this
    exact this.symm
  rw [e63] at k1
  rw [e64] at k2
  refine ⟨_, _, _, _, _, _, _, _, rfl, k1, k2, rfl, rfl, rfl, by omega, rfl, by omega, rfl, rfl, rfl, ?_, ?_, by omega⟩
  · rw [Nat.add_mul (hi * 18446744073709551616) lo, Nat.mul_right_comm hi, k6]
    omega
  · exact or_low hi s _ k4

/-- The quotient and the rest, from the two digits. -/
theorem shifted_out {hi lo y s Y a b H U L u1 u0 : Nat} (S : Shifted hi lo y s Y a b H U L u1 u0) (hy : 0 < y) :
    (U * 4294967296 + u1) / Y * 4294967296 + ((U * 4294967296 + u1) % Y * 4294967296 + u0) / Y = (hi * 18446744073709551616 + lo) / y ∧
    ((U * 4294967296 + u1) % Y * 4294967296 + u0) % Y / 2 ^ s = (hi * 18446744073709551616 + lo) % y := by
  have hY : 0 < Y := by have := S.Y1; omega
  obtain ⟨t1, t2⟩ := two_digits 4294967296 (U * 4294967296 + u1) u0 Y hY
  rw [t1, t2, S.all, S.hY]
  have hp : 0 < 2 ^ s := Nat.two_pow_pos s
  exact ⟨Nat.mul_div_mul_right _ _ hp, by rw [Nat.mul_mod_mul_right, Nat.mul_div_cancel _ hp]⟩
theorem digit_lt {U u1 Y : Nat} (h1 : U < Y) (h2 : u1 < 4294967296) : (U * 4294967296 + u1) / Y < 4294967296 := (Nat.div_lt_iff_lt_mul (by omega)).2 (by omega)
end Go.Proofs.Ytoighcbbaacnaaa
