/-
  The least common multiple of a list, and the reference's product and quotient, in plain words.
-/
import Derived.Test.YtboodcekjooehaaDoorGcdPlain
import Derived.Test.YtboodcekjooehaaDoorEng
namespace Go.Proofs.YtboodcekjooehaaDoor
set_option linter.unusedVariables false
theorem drop_at' {α : Type} {l : List α} {k : Nat} {x : α} (h : l[k]? = some x) : l.drop k = x :: l.drop (k + 1) := by
  obtain ⟨hk, e⟩ := List.getElem?_eq_some_iff.1 h
  rw [List.drop_eq_getElem_cons hk, e]
theorem gcV_pos {m n : Int} (hm : 1 ≤ m ∧ m ≤ 1125899906842624) (hn : inR n) : 1 ≤ gcV m n ∧ gcV m n ≤ m ∧ gcV m n ∣ m ∧ gcV m n ∣ n := by
  have h : inR m := ⟨by omega, by omega⟩
  rw [gcV_yes ⟨h, hn⟩]
  have p := Nat.gcd_pos_of_pos_left n.natAbs (show 0 < m.natAbs by omega)
  have l := Nat.gcd_le_left n.natAbs (show 0 < m.natAbs by omega)
  refine ⟨by omega, by omega, Int.ofNat_dvd_left.2 (Nat.gcd_dvd_left _ _), Int.ofNat_dvd_left.2 (Nat.gcd_dvd_right _ _)⟩
theorem lc_bd {m n : Int} (hm : 1 ≤ m ∧ m ≤ 1125899906842624) (hn : inR n) : 1 ≤ m / gcV m n ∧ m / gcV m n ≤ 1125899906842624 := by
  obtain ⟨h1, h2, h3, _⟩ := gcV_pos hm hn
  refine ⟨(Int.le_ediv_iff_mul_le (by omega)).2 (by omega), ?_⟩
  have := Int.ediv_le_self (gcV m n) (show 0 ≤ m by omega)
  omega
def lcF : Int → List Int → Option Int
  | m, [] => some m
  | m, n :: t => if 1 ≤ n ∧ n ≤ 1125899906842624 ∧ m / gcV m n * n ≤ 1125899906842624 then lcF (m / gcV m n * n) t else none
def lcB (l : List Int) : Bool := (lcF 1 l).isSome
def lcV (l : List Int) : Int := (lcF 1 l).getD 0
theorem md_one {a b : Int} (ha : 1 ≤ a ∧ a ≤ 1125899906842624) (hb : 1 ≤ b ∧ b ≤ 1125899906842624) : mdB a b 1 = decide (a * b ≤ 1125899906842624) ∧ (a * b ≤ 1125899906842624 → mdV a b 1 = a * b) := by
  have hp : 1 * 1 ≤ a * b := Int.mul_le_mul ha.1 hb.1 (by decide) (by omega)
  have e : a * b / 1 = a * b := Int.ediv_one _
  by_cases h : a * b ≤ 1125899906842624
  · obtain ⟨q1, q2⟩ := md_yes (a := a) (b := b) (c := 1) (by unfold inR; omega) e (by unfold inR; omega)
    exact ⟨by rw [q1, decide_eq_true h], fun _ => q2⟩
  · obtain ⟨q1, q2⟩ := md_out (a := a) (b := b) (c := 1) e (by unfold inR; omega)
    exact ⟨by rw [q1, decide_eq_false h], fun q => absurd q h⟩
/-- One round. -/
structure LcAt (l : List Int) (k : Nat) (m : Int) : Prop where
  eq : lcF 1 l = lcF m (l.drop k)
  m1 : 1 ≤ m
  m2 : m ≤ 1125899906842624
theorem LcAt.zero (l : List Int) : LcAt l 0 1 := ⟨rfl, by decide, by decide⟩
theorem LcAt.arg {l : List Int} {k : Nat} {m : Int} (h : LcAt l k m) (hk : k < l.length) (hn : ¬ (1 ≤ nt l k ∧ nt l k ≤ 1125899906842624)) : lcF 1 l = none := by
  rw [h.eq, drop_at' (nt_some hk), lcF, if_neg fun q => hn ⟨q.1, q.2.1⟩]
theorem LcAt.bad {l : List Int} {k : Nat} {m : Int} (h : LcAt l k m) (hk : k < l.length) (hn : 1 ≤ nt l k ∧ nt l k ≤ 1125899906842624) (hb : mdB (m / gcV m (nt l k)) (nt l k) 1 = false) : lcF 1 l = none := by
  have q := lc_bd ⟨h.m1, h.m2⟩ (n := nt l k) (by unfold inR; omega)
  rw [(md_one q hn).1, decide_eq_false_iff_not] at hb
  rw [h.eq, drop_at' (nt_some hk), lcF, if_neg fun q => hb q.2.2]
theorem LcAt.next {l : List Int} {k : Nat} {m : Int} (h : LcAt l k m) (hk : k < l.length) (hn : 1 ≤ nt l k ∧ nt l k ≤ 1125899906842624) (hb : mdB (m / gcV m (nt l k)) (nt l k) 1 = true) : LcAt l (k + 1) (mdV (m / gcV m (nt l k)) (nt l k) 1) := by
  have q := lc_bd ⟨h.m1, h.m2⟩ (n := nt l k) (by unfold inR; omega)
  obtain ⟨o1, o2⟩ := md_one q hn
  rw [o1, decide_eq_true_eq] at hb
  have hp : 1 * 1 ≤ m / gcV m (nt l k) * nt l k := Int.mul_le_mul q.1 hn.1 (by decide) (by omega)
  rw [o2 hb]
  exact ⟨by rw [h.eq, drop_at' (nt_some hk), lcF, if_pos ⟨hn.1, hn.2, hb⟩], by omega, hb⟩
theorem LcAt.done {l : List Int} {k : Nat} {m : Int} (h : LcAt l k m) (hk : l.length ≤ k) : lcV l = m ∧ lcB l = true := by
  have e : lcF 1 l = some m := by rw [h.eq, List.drop_eq_nil_of_le hk]; rfl
  unfold lcV lcB
  rw [e]
  exact ⟨rfl, rfl⟩
theorem lc_none {l : List Int} (e : lcF 1 l = none) : lcV l = 0 ∧ lcB l = false := by
  unfold lcV lcB
  rw [e]
  exact ⟨rfl, rfl⟩
theorem lcF_bad : ∀ (l : List Int) (m : Int) (k : Nat), k < l.length → ¬ (1 ≤ nt l k ∧ nt l k ≤ 1125899906842624) → lcF m l = none
  | [], m, k, h, _ => by simp at h
  | x :: t, m, 0, _, hn => by
    rw [lcF, if_neg]
    exact fun q => hn ⟨q.1, q.2.1⟩
  | x :: t, m, k + 1, h, hn => by
    rw [lcF]
    split
    · exact lcF_bad t _ k (by simpa using h) (by simpa [nt] using hn)
    · rfl
/-- The other order of the product. -/
theorem lc_swap {m n : Int} (hm : 1 ≤ m ∧ m ≤ 1125899906842624) (hn : inR n) : m * (n / gcV m n) = m / gcV m n * n := by
  obtain ⟨h1, _, ⟨p, hp⟩, ⟨q, hq⟩⟩ := gcV_pos hm hn
  generalize gcV m n = g at *
  rw [hp, hq, Int.mul_ediv_cancel_left _ (by omega), Int.mul_ediv_cancel_left _ (by omega), Int.mul_comm g p, Int.mul_assoc]
theorem md_swap {m n : Int} (hm : 1 ≤ m ∧ m ≤ 1125899906842624) (hn : 1 ≤ n ∧ n ≤ 1125899906842624) : mdB m (n / gcV m n) 1 = mdB (m / gcV m n) n 1 ∧ mdV m (n / gcV m n) 1 = mdV (m / gcV m n) n 1 := by
  have hi : inR n := ⟨by omega, hn.2⟩
  obtain ⟨h1, h2, h3, h4⟩ := gcV_pos hm hi
  have e := lc_swap hm hi
  have a1 := lc_bd hm hi
  have b1 : 1 ≤ n / gcV m n ∧ n / gcV m n ≤ 1125899906842624 := by
    obtain ⟨q, hq⟩ := h4
    have hq1 : n / gcV m n = q := by
      have z : gcV m n * q / gcV m n = q := Int.mul_ediv_cancel_left _ (by omega)
      rw [← hq] at z
      exact z
    have hq0 : 0 < q := by
      rcases Int.lt_or_le 0 q with z | z
      · exact z
      · have := Int.mul_nonneg (show 0 ≤ gcV m n by omega) (show 0 ≤ -q by omega)
        rw [Int.mul_neg] at this
        omega
    have := Int.ediv_le_self (gcV m n) (show 0 ≤ n by omega)
    omega
  obtain ⟨o1, o2⟩ := md_one hm b1
  obtain ⟨p1, p2⟩ := md_one a1 hn
  rw [o1, p1, e]
  refine ⟨rfl, ?_⟩
  unfold mdV
  rw [o1, p1, e]
theorem tdiv_floor {a b : Int} (hb : 1 ≤ b) : (b * a.tdiv b ≤ a ∧ a / b = a.tdiv b) ∨ (a < b * a.tdiv b ∧ a / b = a.tdiv b - 1) := by
  have e1 := Int.mul_tdiv_add_tmod a b
  have e2 : -b < a.tmod b ∧ a.tmod b < b := by
    have h1 := Int.tmod_lt_of_pos a (show 0 < b by omega)
    have h2 := Int.tmod_lt_of_pos (-a) (show 0 < b by omega)
    rw [Int.neg_tmod] at h2
    omega
  by_cases h : 0 ≤ a.tmod b
  · exact .inl ⟨by omega, ((Int.ediv_emod_unique (show 0 < b by omega)).2 ⟨by omega, h, e2.2⟩ : a / b = a.tdiv b ∧ a % b = a.tmod b).1⟩
  · refine .inr ⟨by omega, ((Int.ediv_emod_unique (show 0 < b by omega)).2 ⟨by rw [Int.mul_sub, Int.mul_one]; omega, by omega, by omega⟩ : a / b = a.tdiv b - 1 ∧ a % b = a.tmod b + b).1⟩
theorem tdiv_bd {a b : Int} (ha : inR a) (hb : 1 ≤ b ∧ b ≤ 1125899906842624) : -1125899906842625 ≤ a.tdiv b ∧ a.tdiv b ≤ 1125899906842625 ∧ -2251799813685250 ≤ a.tdiv b * b ∧ a.tdiv b * b ≤ 2251799813685250 := by
  have h1 := div_bd ha hb.1
  have e := Int.mul_comm b (a.tdiv b)
  have e2 := Int.mul_ediv_add_emod a b
  have e3 := Int.emod_nonneg a (show b ≠ 0 by omega)
  have e4 := Int.emod_lt_of_pos a (show 0 < b by omega)
  obtain ⟨h2, h3⟩ := h1
  obtain ⟨h4, h5⟩ := ha
  rcases tdiv_floor (a := a) hb.1 with ⟨q1, q2⟩ | ⟨q1, q2⟩
  · rw [q2] at e2 h2 h3
    omega
  · rw [q2, Int.mul_sub, Int.mul_one] at e2
    omega
/-- The reference's product, bit by bit: behind the bits from kb on. -/
structure MdAt (aN : Nat) (b c : Int) (kb : Nat) (q r : Int) : Prop where
  eq : q * c + r = ((aN / 2 ^ kb : Nat) : Int) * b
  q0 : 0 ≤ q
  r0 : 0 ≤ r
  r1 : r < c
theorem MdAt.zero {aN : Nat} {b c : Int} (ha : aN ≤ 1125899906842624) (hc : 1 ≤ c) : MdAt aN b c 51 0 0 := by
  refine ⟨?_, by decide, by decide, by omega⟩
  have : aN / 2 ^ 51 = 0 := Nat.div_eq_of_lt (by omega)
  rw [this]
  simp
theorem half_of (aN m : Nat) : aN / 2 ^ m = 2 * (aN / 2 ^ (m + 1)) + aN / 2 ^ m % 2 := by
  have : aN / 2 ^ (m + 1) = aN / 2 ^ m / 2 := by rw [Nat.pow_succ, Nat.div_div_eq_div_mul]
  rw [this]
  omega
theorem MdAt.next0 {aN : Nat} {b c q r : Int} {m : Nat} (h : MdAt aN b c (m + 1) q r) (hb : ¬ ((aN / 2 ^ m % 2 : Nat) : Int) = 1) (hc : 1 ≤ c) : MdAt aN b c m (2 * q + 2 * r / c) (2 * r % c) := by
  have e := half_of aN m
  have e2 : aN / 2 ^ m = 2 * (aN / 2 ^ (m + 1)) := by omega
  have d := Int.mul_ediv_add_emod (2 * r) c
  have h1 := Int.emod_nonneg (2 * r) (show c ≠ 0 by omega)
  have h2 := Int.emod_lt_of_pos (2 * r) (show 0 < c by omega)
  have hr := h.r0
  have hq := h.q0
  refine ⟨?_, by have := Int.ediv_nonneg (show 0 ≤ 2 * r by omega) (show 0 ≤ c by omega); omega, h1, h2⟩
  have e3 : (2 * q + 2 * r / c) * c = 2 * (q * c) + c * (2 * r / c) := by rw [Int.add_mul, Int.mul_assoc, Int.mul_comm c]
  have e4 : (((2 * (aN / 2 ^ (m + 1)) : Nat)) : Int) * b = 2 * (((aN / 2 ^ (m + 1) : Nat) : Int) * b) := by rw [Int.natCast_mul, Int.mul_assoc]; rfl
  rw [e2, e3, e4, ← h.eq]
  omega
theorem MdAt.next1 {aN : Nat} {b c q r : Int} {m : Nat} (h : MdAt aN b c (m + 1) q r) (hb : ((aN / 2 ^ m % 2 : Nat) : Int) = 1) (hc : 1 ≤ c) (hb0 : 0 ≤ b) : MdAt aN b c m (2 * q + b / c + (2 * r + b % c) / c) ((2 * r + b % c) % c) := by
  have e := half_of aN m
  have e2 : aN / 2 ^ m = 2 * (aN / 2 ^ (m + 1)) + 1 := by omega
  have d := Int.mul_ediv_add_emod (2 * r + b % c) c
  have d2 := Int.mul_ediv_add_emod b c
  have h0 := Int.emod_nonneg b (show c ≠ 0 by omega)
  have h1 := Int.emod_nonneg (2 * r + b % c) (show c ≠ 0 by omega)
  have h2 := Int.emod_lt_of_pos (2 * r + b % c) (show 0 < c by omega)
  have hr := h.r0
  have hq := h.q0
  refine ⟨?_, by have := Int.ediv_nonneg (show 0 ≤ 2 * r + b % c by omega) (show 0 ≤ c by omega); have := Int.ediv_nonneg hb0 (show 0 ≤ c by omega); omega, h1, h2⟩
  have e3 : (2 * q + b / c + (2 * r + b % c) / c) * c = 2 * (q * c) + c * (b / c) + c * ((2 * r + b % c) / c) := by rw [Int.add_mul, Int.add_mul, Int.mul_assoc, Int.mul_comm c, Int.mul_comm c]
  have e4 : (((2 * (aN / 2 ^ (m + 1)) + 1 : Nat)) : Int) * b = 2 * (((aN / 2 ^ (m + 1) : Nat) : Int) * b) + b := by rw [Int.natCast_add, Int.natCast_mul, Int.add_mul, Int.mul_assoc]; simp
  rw [e2, e3, e4, ← h.eq]
  omega
theorem MdAt.big {aN bN : Nat} {c q r : Int} {m : Nat} (h : MdAt aN (bN : Int) c m q r) : q * c ≤ ((aN * bN : Nat) : Int) := by
  have h1 : aN / 2 ^ m * bN ≤ aN * bN := Nat.mul_le_mul_right _ (Nat.div_le_self _ _)
  have e := h.eq
  have e2 : ((aN / 2 ^ m : Nat) : Int) * (bN : Int) = ((aN / 2 ^ m * bN : Nat) : Int) := (Int.natCast_mul _ _).symm
  have := h.r0
  omega
theorem MdAt.done {aN bN : Nat} {c q r : Int} (h : MdAt aN (bN : Int) c 0 q r) : q * c + r = ((aN * bN : Nat) : Int) := by
  have e := h.eq
  rw [Nat.pow_zero, Nat.div_one, ← Int.natCast_mul] at e
  exact e
theorem fd_split {a b : Int} (h : fdB a b = true) : -1125899906842624 ≤ a ∧ a ≤ 1125899906842624 ∧ 1 ≤ b ∧ b ≤ 1125899906842624 ∧ -1125899906842624 ≤ fdV a b ∧ fdV a b ≤ 1125899906842624 ∧ fdV a b * b ≤ a ∧ a - b < fdV a b * b ∧ b * fdV a b ≤ a ∧ a - b < b * fdV a b := by
  have hh : inR a ∧ inR b ∧ 1 ≤ b := of_decide_eq_true h
  obtain ⟨_, e, _, _⟩ := fd_yes hh
  have q := div_bd hh.1 hh.2.2
  have e2 := Int.mul_ediv_add_emod a b
  have e3 := Int.emod_nonneg a (show b ≠ 0 by omega)
  have e4 := Int.emod_lt_of_pos a (show 0 < b by omega)
  have e5 := Int.mul_comm b (a / b)
  obtain ⟨⟨h1, h2⟩, ⟨h3, h4⟩, h5⟩ := hh
  obtain ⟨q1, q2⟩ := q
  rw [e]
  omega
theorem fd_mod {a b : Int} (h : fdB a b = true) : moV a b = a - b * fdV a b ∧ moV a b = a - fdV a b * b := by
  have hh : inR a ∧ inR b ∧ 1 ≤ b := of_decide_eq_true h
  obtain ⟨_, e, e1, _⟩ := fd_yes hh
  have e2 := Int.mul_ediv_add_emod a b
  have e5 := Int.mul_comm b (a / b)
  rw [e, e1]
  omega
theorem fd_off {a b : Int} (h : fdB a b = false) : fdV a b = 0 ∧ moV a b = 0 ∧ cdV a b = 0 := (fd_no (of_decide_eq_false h)).2
theorem fd_ceil {a b : Int} (h : fdB a b = true) : (fdV a b * b < a → cdV a b = fdV a b + 1) ∧ (¬ fdV a b * b < a → cdV a b = fdV a b) := by
  have hh : inR a ∧ inR b ∧ 1 ≤ b := of_decide_eq_true h
  obtain ⟨_, e, _, e1⟩ := fd_yes hh
  have hb : 0 < b := by omega
  have e2 := Int.mul_ediv_add_emod a b
  have e3 := Int.emod_nonneg a (show b ≠ 0 by omega)
  have e4 := Int.emod_lt_of_pos a hb
  have e5 := Int.mul_comm b (a / b)
  rw [e, e1]
  constructor
  · intro q
    have : -a / b = -(a / b) - 1 := ((Int.ediv_emod_unique hb).2 ⟨by rw [Int.mul_sub, Int.mul_neg, Int.mul_one]; omega, by omega, by omega⟩ : -a / b = -(a / b) - 1 ∧ -a % b = b - a % b).1
    omega
  · intro q
    have : -a / b = -(a / b) := ((Int.ediv_emod_unique hb).2 ⟨by rw [Int.mul_neg]; omega, Int.le_refl 0, hb⟩ : -a / b = -(a / b) ∧ -a % b = 0).1
    omega
theorem shrI (x s r : Nat) {q : Int} (hq : q.toNat = s) (hs : s ≤ 64) (h : r = x / 2 ^ s) : (x : Int).fdiv (2 ^ min q.toNat IntKind.i64.bits) = (r : Int) := by
  have e : min q.toNat IntKind.i64.bits = s := by rw [hq]; exact Nat.min_eq_left hs
  rw [e, Int.fdiv_eq_ediv_of_nonneg _ (Int.pow_nonneg (by decide)), h]
  simp
theorem gcd_step (x y : Nat) : Nat.gcd y (x % y) = Nat.gcd x y := by rw [Nat.gcd_comm x y, Nat.gcd_rec y x, Nat.gcd_comm]
end Go.Proofs.YtboodcekjooehaaDoor
