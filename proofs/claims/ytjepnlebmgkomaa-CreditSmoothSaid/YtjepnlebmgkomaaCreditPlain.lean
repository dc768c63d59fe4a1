/-
  Plain words on the credit-based shaper (no program): valid slopes and states, one step.
-/
namespace Go.Proofs.Ytjepnlebmgkomaa
def slopeB (r p : Int) : Bool := decide (1 ≤ r ∧ r < 1048576 ∧ 1 ≤ p ∧ p ≤ 1000 ∧ r * p < 1048576)
def stateB (a l : Int) : Bool := decide (0 ≤ a ∧ a ≤ 1073741824 ∧ -1616904192 ≤ l ∧ l ≤ 1125899906842624)
def timeB (t : Int) : Bool := decide (0 ≤ t ∧ t ≤ 1073741824)
def slopeE (r p : Int) : Int := if slopeB r p = true then 0 else 450
def stateE (a l : Int) : Int := if stateB a l = true then 0 else 450
/-- The state at a time, if the queue is empty until then: its time, its credit. -/
def idleA (a at_ : Int) : Int := max a at_
def idleL (r a l at_ : Int) : Int := if at_ ≤ a then l else min 0 (l + r * (at_ - a))
/-- The start of a frame, its next state's time and credit. -/
def stepStart (r a l at_ free : Int) : Int := max free (idleA a at_ + (max 0 (-(idleL r a l at_)) + r - 1) / r)
def stepAt (r p a l at_ free size : Int) : Int := stepStart r a l at_ free + size * p
def stepLevel (r p a l at_ free size : Int) : Int := idleL r a l at_ + r * (stepStart r a l at_ free - idleA a at_) + (r * p - 1048576) * size
theorem slopeB_iff {r p : Int} : slopeB r p = true ↔ (1 ≤ r ∧ r < 1048576 ∧ 1 ≤ p ∧ p ≤ 1000 ∧ r * p < 1048576) := by simp [slopeB]
theorem stateB_iff {a l : Int} : stateB a l = true ↔ (0 ≤ a ∧ a ≤ 1073741824 ∧ -1616904192 ≤ l ∧ l ≤ 1125899906842624) := by simp [stateB]
theorem timeB_iff {t : Int} : timeB t = true ↔ (0 ≤ t ∧ t ≤ 1073741824) := by simp [timeB]
theorem slopeE_yes {r p : Int} (h : slopeB r p = true) : slopeE r p = 0 := by simp [slopeE, h]
theorem slopeE_no {r p : Int} (h : slopeB r p = false) : slopeE r p = 450 := by simp [slopeE, h]
theorem stateE_yes {r p : Int} (h : stateB r p = true) : stateE r p = 0 := by simp [stateE, h]
theorem stateE_no {r p : Int} (h : stateB r p = false) : stateE r p = 450 := by simp [stateE, h]
theorem slope_mul {r p : Int} (h1 : 1 ≤ r) (h2 : r ≤ 1048576) (h3 : 1 ≤ p) (h4 : p ≤ 1000) : 0 ≤ r * p ∧ r * p ≤ 1048576000 :=
  ⟨Int.mul_nonneg (by omega) (by omega), by have := Int.mul_le_mul h2 h4 (by omega) (by omega); simpa using this⟩
end Go.Proofs.Ytjepnlebmgkomaa
