/-
  Integers in range, and a product divided and rounded down, in plain words.
-/
namespace Go.Proofs.Ytoighcbbaacnaaa
set_option linter.unusedVariables false
def inR (x : Int) : Prop := -1125899906842624 ≤ x ∧ x ≤ 1125899906842624
instance (x : Int) : Decidable (inR x) := by unfold inR; infer_instance
theorem inR_iff {x : Int} : inR x ↔ -1125899906842624 ≤ x ∧ x ≤ 1125899906842624 := Iff.rfl
def suB (x : Int) (a b : Int) : Bool := decide (inR a ∧ inR b ∧ inR x)
def suV (x : Int) (a b : Int) : Int := if suB x a b = true then x else 0
def mdB (a b c : Int) : Bool := decide (inR a ∧ inR b ∧ inR c ∧ 1 ≤ c ∧ inR (a * b / c))
def mdV (a b c : Int) : Int := if mdB a b c = true then a * b / c else 0
theorem su_yes {x a b : Int} (h : inR a ∧ inR b ∧ inR x) : suB x a b = true ∧ suV x a b = x := by
  have e : suB x a b = true := decide_eq_true h
  exact ⟨e, by unfold suV; rw [if_pos e]⟩
theorem su_no {x a b : Int} (h : ¬ (inR a ∧ inR b ∧ inR x)) : suB x a b = false ∧ suV x a b = 0 := by
  have e : suB x a b = false := decide_eq_false h
  exact ⟨e, by unfold suV; rw [e]; rfl⟩
theorem md_yes {a b c v : Int} (h : inR a ∧ inR b ∧ inR c ∧ 1 ≤ c) (e : a * b / c = v) (hv : inR v) : mdB a b c = true ∧ mdV a b c = v := by
  have q : mdB a b c = true := decide_eq_true ⟨h.1, h.2.1, h.2.2.1, h.2.2.2, by rw [e]; exact hv⟩
  exact ⟨q, by unfold mdV; rw [if_pos q, e]⟩
theorem md_no {a b c : Int} (h : ¬ (inR a ∧ inR b ∧ inR c ∧ 1 ≤ c ∧ inR (a * b / c))) : mdB a b c = false ∧ mdV a b c = 0 := by
  have e : mdB a b c = false := decide_eq_false h
  exact ⟨e, by unfold mdV; rw [e]; rfl⟩
theorem md_arg {a b c : Int} (h : ¬ (inR a ∧ inR b ∧ inR c ∧ 1 ≤ c)) : mdB a b c = false ∧ mdV a b c = 0 := md_no fun q => h ⟨q.1, q.2.1, q.2.2.1, q.2.2.2.1⟩
theorem md_out {a b c v : Int} (e : a * b / c = v) (hv : ¬ inR v) : mdB a b c = false ∧ mdV a b c = 0 := md_no fun q => hv (by rw [← e]; exact q.2.2.2.2)
theorem mul_sign_pos {a b : Int} (h : a < 0 ↔ b < 0) : 0 ≤ a * b := by
  by_cases ha : a < 0
  · have hb := h.1 ha
    have := Int.mul_nonneg (show 0 ≤ -a by omega) (show 0 ≤ -b by omega)
    rwa [Int.neg_mul_neg] at this
  · exact Int.mul_nonneg (by omega) (by have : ¬ b < 0 := fun q => ha (h.2 q); omega)
theorem mul_sign_neg {a b : Int} (h : ¬ (a < 0 ↔ b < 0)) : a * b ≤ 0 := by
  by_cases ha : a < 0
  · have hb : 0 ≤ b := by
      rcases Int.lt_or_le b 0 with q | q
      · exact absurd ⟨fun _ => q, fun _ => ha⟩ h
      · exact q
    have := Int.mul_nonneg (show 0 ≤ -a by omega) hb
    rw [Int.neg_mul] at this
    omega
  · have hb : b < 0 := by
      rcases Int.lt_or_le b 0 with q | q
      · exact q
      · exact absurd ⟨fun z => absurd z ha, fun z => by omega⟩ h
    have := Int.mul_nonneg (show 0 ≤ a by omega) (show 0 ≤ -b by omega)
    rw [Int.mul_neg] at this
    omega
theorem abs_prod (a b : Int) : ((a.natAbs * b.natAbs : Nat) : Int) = a * b ∨ ((a.natAbs * b.natAbs : Nat) : Int) = -(a * b) := by
  rw [← Int.natAbs_mul]
  omega
/-- The floor of a quotient, out of the quotient of the absolute values. -/
theorem fl_pos {a b c q r : Int} (h : 0 ≤ a * b) (hM : q * c + r = ((a.natAbs * b.natAbs : Nat) : Int)) (h0 : 0 ≤ r) (h1 : r < c) : a * b / c = q := by
  have e : ((a.natAbs * b.natAbs : Nat) : Int) = a * b := by rw [← Int.natAbs_mul]; omega
  have hc : 0 < c := by omega
  exact ((Int.ediv_emod_unique hc).2 ⟨by rw [Int.mul_comm c q]; omega, h0, h1⟩ : a * b / c = q ∧ a * b % c = r).1
theorem fl_neg0 {a b c q r : Int} (h : a * b ≤ 0) (hM : q * c + r = ((a.natAbs * b.natAbs : Nat) : Int)) (h0 : r = 0) (h1 : 0 < c) : a * b / c = -q := by
  have e : ((a.natAbs * b.natAbs : Nat) : Int) = -(a * b) := by rw [← Int.natAbs_mul]; omega
  have e2 : c * -q = -(q * c) := by rw [Int.mul_neg, Int.mul_comm]
  exact ((Int.ediv_emod_unique h1).2 ⟨by rw [e2]; omega, Int.le_refl 0, h1⟩ : a * b / c = -q ∧ a * b % c = 0).1
theorem fl_neg1 {a b c q r : Int} (h : a * b ≤ 0) (hM : q * c + r = ((a.natAbs * b.natAbs : Nat) : Int)) (h0 : 0 < r) (h1 : r < c) : a * b / c = -q - 1 := by
  have e : ((a.natAbs * b.natAbs : Nat) : Int) = -(a * b) := by rw [← Int.natAbs_mul]; omega
  have hc : 0 < c := by omega
  have e2 : c * (-q - 1) = -(q * c) - c := by rw [Int.mul_sub, Int.mul_neg, Int.mul_comm, Int.mul_one]
  exact ((Int.ediv_emod_unique hc).2 ⟨by rw [e2]; omega, by omega, by omega⟩ : a * b / c = -q - 1 ∧ a * b % c = c - r).1
/-- A quotient that is too great. -/
theorem md_big {a b c q : Int} (hc : 1 ≤ c) (hq : 1125899906842625 ≤ q) (h : q * c ≤ ((a.natAbs * b.natAbs : Nat) : Int)) : mdB a b c = false ∧ mdV a b c = 0 := by
  have hk : 1125899906842625 * c ≤ q * c := Int.mul_le_mul_of_nonneg_right hq (by omega)
  refine md_no fun z => ?_
  obtain ⟨_, _, _, _, z1, z2⟩ := z
  have e1 := Int.mul_ediv_add_emod (a * b) c
  have e2 := Int.emod_nonneg (a * b) (show c ≠ 0 by omega)
  have e3 := Int.emod_lt_of_pos (a * b) (show 0 < c by omega)
  have k1 : c * (a * b / c) ≤ c * 1125899906842624 := Int.mul_le_mul_of_nonneg_left z2 (by omega)
  have k2 : c * -1125899906842624 ≤ c * (a * b / c) := Int.mul_le_mul_of_nonneg_left z1 (by omega)
  rcases abs_prod a b with e | e <;> omega
/-- Division rounded down, of one number. -/
def fdB (a b : Int) : Bool := decide (inR a ∧ inR b ∧ 1 ≤ b)
def fdV (a b : Int) : Int := if fdB a b = true then a / b else 0
def cdV (a b : Int) : Int := if fdB a b = true then -(-a / b) else 0
def moV (a b : Int) : Int := if fdB a b = true then a % b else 0
theorem div_bd {a b : Int} (ha : inR a) (hb : 1 ≤ b) : inR (a / b) := by
  obtain ⟨h1, h2⟩ := ha
  refine ⟨(Int.le_ediv_iff_mul_le (by omega)).2 ?_, ?_⟩
  · have : -1125899906842624 * b ≤ -1125899906842624 * 1 := Int.mul_le_mul_of_nonpos_left (by omega) hb
    omega
  · have h := Int.ediv_le_ediv (show 0 < b by omega) h2
    have := Int.ediv_le_self b (show (0 : Int) ≤ 1125899906842624 by decide)
    omega
theorem md_fd {a b : Int} : mdB a 1 b = fdB a b ∧ mdV a 1 b = fdV a b := by
  by_cases h : inR a ∧ inR b ∧ 1 ≤ b
  · have e : fdB a b = true := decide_eq_true h
    obtain ⟨q1, q2⟩ := md_yes (a := a) (b := 1) (c := b) (v := a / b) ⟨h.1, by decide, h.2.1, h.2.2⟩ (by rw [Int.mul_one]) (div_bd h.1 h.2.2)
    exact ⟨by rw [q1, e], by unfold fdV; rw [q2, if_pos e]⟩
  · have e : fdB a b = false := decide_eq_false h
    obtain ⟨q1, q2⟩ := md_arg (a := a) (b := 1) (c := b) fun q => h ⟨q.1, q.2.2.1, q.2.2.2⟩
    exact ⟨by rw [q1, e], by unfold fdV; rw [q2, e]; rfl⟩
theorem md_cd {a b : Int} : mdB a (-1) b = fdB a b ∧ -mdV a (-1) b = cdV a b := by
  by_cases h : inR a ∧ inR b ∧ 1 ≤ b
  · have e : fdB a b = true := decide_eq_true h
    have hm : inR (-a) := by obtain ⟨h1, h2⟩ := h.1; exact ⟨by omega, by omega⟩
    obtain ⟨q1, q2⟩ := md_yes (a := a) (b := -1) (c := b) (v := -a / b) ⟨h.1, by decide, h.2.1, h.2.2⟩ (by rw [Int.mul_neg, Int.mul_one]) (div_bd hm h.2.2)
    exact ⟨by rw [q1, e], by unfold cdV; rw [q2, if_pos e]⟩
  · have e : fdB a b = false := decide_eq_false h
    obtain ⟨q1, q2⟩ := md_arg (a := a) (b := -1) (c := b) fun q => h ⟨q.1, q.2.2.1, q.2.2.2⟩
    exact ⟨by rw [q1, e], by unfold cdV; rw [q2, e]; rfl⟩
theorem fd_yes {a b : Int} (h : inR a ∧ inR b ∧ 1 ≤ b) : fdB a b = true ∧ fdV a b = a / b ∧ moV a b = a % b ∧ cdV a b = -(-a / b) := by
  have e : fdB a b = true := decide_eq_true h
  exact ⟨e, by unfold fdV; rw [if_pos e], by unfold moV; rw [if_pos e], by unfold cdV; rw [if_pos e]⟩
theorem fd_no {a b : Int} (h : ¬ (inR a ∧ inR b ∧ 1 ≤ b)) : fdB a b = false ∧ fdV a b = 0 ∧ moV a b = 0 ∧ cdV a b = 0 := by
  have e : fdB a b = false := decide_eq_false h
  exact ⟨e, by unfold fdV; rw [e]; rfl, by unfold moV; rw [e]; rfl, by unfold cdV; rw [e]; rfl⟩
end Go.Proofs.Ytoighcbbaacnaaa
