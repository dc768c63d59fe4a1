/-
  Curves in plain words: backlog and output.
-/
import Derived.Test.YtoighcbbaacnaaaCurveLaws
namespace Go.Proofs.Ytoighcbbaacnaaa
set_option linter.unusedVariables false
theorem cq_in {n d B : Int} (hd : 1 ≤ d) (h0 : 0 ≤ n) (h : n ≤ B * d) : 0 ≤ cq n d ∧ cq n d ≤ B := ⟨cq_nn hd h0, cq_le hd h⟩
def csE (b q r t : Int) : Int := if bkE b q = 0 then (if svE r t = 0 then (if q ≤ r then 0 else 141) else 140) else 130
theorem cs_130 {b q r t : Int} (h : ¬ bkE b q = 0) : csE b q r t = 130 := by unfold csE; rw [if_neg h]
theorem cs_140 {b q r t : Int} (h : bkE b q = 0) (h1 : ¬ svE r t = 0) : csE b q r t = 140 := by unfold csE; rw [if_pos h, if_neg h1]
theorem cs_141 {b q r t : Int} (h : bkE b q = 0) (h1 : svE r t = 0) (h2 : r < q) : csE b q r t = 141 := by unfold csE; rw [if_pos h, if_pos h1, if_neg (by omega)]
theorem cs_0 {b q r t : Int} (h : bkE b q = 0) (h1 : svE r t = 0) (h2 : ¬ r < q) : csE b q r t = 0 := by unfold csE; rw [if_pos h, if_pos h1, if_pos (by omega)]
theorem cs_ok {b q r t : Int} (h : csE b q r t = 0) : bkE b q = 0 ∧ svE r t = 0 ∧ q ≤ r := by
  unfold csE at h
  split at h
  · split at h
    · split at h
      · rename_i h1 h2 h3; exact ⟨h1, h2, h3⟩
      · cases h
    · cases h
  · cases h
theorem cs_bd {b q r t : Int} (h : csE b q r t = 0) : 1 ≤ b ∧ b ≤ 1048576 ∧ 1 ≤ q ∧ q ≤ 2097152 ∧ 1 ≤ r ∧ r ≤ 2097152 ∧ 0 ≤ t ∧ t ≤ 268435456 ∧ q ≤ r := by
  have h1 := cs_ok h
  have h2 := bkE_ok h1.1
  have h3 := svE_ok h1.2.1
  omega
/-- One bucket's delay. -/
theorem dl_one {b q r t : Int} (h : csE b q r t = 0) : dlE r t [(b, q)] = 0 ∧ dlV r t [(b, q)] = t + cq (b * 1048576) r := by
  have h1 := cs_ok h
  have e : dAll r [(b, q)] [(b, q)].length = [cq (b * 1048576) r] := by
    show dAll r [(b, q)] (0 + 1) = _
    have p : pr [(b, q)] 0 = (b, q) := rfl
    rw [dAll_take (by rw [p]; show ¬ r < q; omega), p]
    show [] ++ cq (b * 1048576) r :: dIn r (b, q) [(b, q)] (0 + 1) = _
    rw [dIn_skip (by rw [p]; exact .inl h1.2.2)]
    rfl
  have a : bkAll [(b, q)] = true := bkAll_yes fun j hj => by
    have : j = 0 := by simp at hj; omega
    subst this
    exact h1.1
  have d := dl_0 (r := r) (t := t) (l := [(b, q)]) (by simp) (by simp) a h1.2.1 (by rw [e]; rfl)
  rw [e] at d
  exact d
def blV (b q r t : Int) : Int := if csE b q r t = 0 then b + cq (q * t) 1048576 else 0
theorem bl_no {b q r t : Int} (h : ¬ csE b q r t = 0) : blV b q r t = 0 := by unfold blV; rw [if_neg h]
theorem bl_yes {b q r t : Int} (h : csE b q r t = 0) : blV b q r t = b + cq (q * t) 1048576 := by unfold blV; rw [if_pos h]
def ouN (b q r t : Int) : Int := b + cq (q * (t + cq (b * 1048576) r)) 1048576
def ouE (b q r t : Int) : Int := if csE b q r t = 0 then (if bkE (ouN b q r t) q = 0 then 0 else 6) else csE b q r t
def ouB (b q r t : Int) : Int := if ouE b q r t = 0 then ouN b q r t else 0
def ouR (b q r t : Int) : Int := if ouE b q r t = 0 then q else 0
theorem ou_no {b q r t e : Int} (h : ouE b q r t = e) (he : e ≠ 0) : ouE b q r t = e ∧ ouB b q r t = 0 ∧ ouR b q r t = 0 := ⟨h, by unfold ouB; rw [if_neg (by rw [h]; exact he)], by unfold ouR; rw [if_neg (by rw [h]; exact he)]⟩
theorem ou_cs {b q r t : Int} (h : ¬ csE b q r t = 0) : ouE b q r t = csE b q r t ∧ ouB b q r t = 0 ∧ ouR b q r t = 0 := ou_no (by unfold ouE; rw [if_neg h]) h
theorem ou_6 {b q r t : Int} (h : csE b q r t = 0) (h1 : ¬ bkE (ouN b q r t) q = 0) : ouE b q r t = 6 ∧ ouB b q r t = 0 ∧ ouR b q r t = 0 := ou_no (by unfold ouE; rw [if_pos h, if_neg h1]) (by decide)
theorem ou_0 {b q r t : Int} (h : csE b q r t = 0) (h1 : bkE (ouN b q r t) q = 0) : ouE b q r t = 0 ∧ ouB b q r t = ouN b q r t ∧ ouR b q r t = q := by
  have e : ouE b q r t = 0 := by unfold ouE; rw [if_pos h, if_pos h1]
  exact ⟨e, by unfold ouB; rw [if_pos e], by unfold ouR; rw [if_pos e]⟩
end Go.Proofs.Ytoighcbbaacnaaa
