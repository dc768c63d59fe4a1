/-
  One step of the shaper in plain words: errors, values, and what each branch of the code computes.
-/
import Derived.Test.YtjepnlebmgkomaaCreditPlain
import Derived.Test.YtjepnlebmgkomaaRunPlain
namespace Go.Proofs.Ytjepnlebmgkomaa
theorem slopeE_ok {r p : Int} (h : slopeE r p = 0) : 1 ≤ r ∧ r < 1048576 ∧ 1 ≤ p ∧ p ≤ 1000 ∧ r * p < 1048576 := by
  unfold slopeE at h
  split at h
  · exact slopeB_iff.1 ‹_›
  · cases h
theorem stateE_ok {a l : Int} (h : stateE a l = 0) : 0 ≤ a ∧ a ≤ 1073741824 ∧ -1616904192 ≤ l ∧ l ≤ 1125899906842624 := by
  unfold stateE at h
  split at h
  · exact stateB_iff.1 ‹_›
  · cases h
theorem slopeE_eq (r p : Int) : slopeE r p = if 1 ≤ r ∧ r < 1048576 ∧ 1 ≤ p ∧ p ≤ 1000 ∧ r * p < 1048576 then 0 else 450 := by simp [slopeE, slopeB]
theorem stateE_eq (a l : Int) : stateE a l = if 0 ≤ a ∧ a ≤ 1073741824 ∧ -1616904192 ≤ l ∧ l ≤ 1125899906842624 then 0 else 450 := by simp [stateE, stateB]
theorem slopeE_450 {r p : Int} (h : ¬ slopeE r p = 0) : slopeE r p = 450 := by rw [slopeE_eq] at *; split at h <;> simp_all
theorem stateE_450 {r p : Int} (h : ¬ stateE r p = 0) : stateE r p = 450 := by rw [stateE_eq] at *; split at h <;> simp_all
def cstE (r p a l at_ free size : Int) : Int :=
  if slopeE r p = 0 then (if stateE a l = 0 then (if 0 ≤ at_ ∧ at_ ≤ 1073741824 ∧ 0 ≤ free ∧ free ≤ 1073741824 ∧ 1 ≤ size ∧ size ≤ 1542 then (if stateE (stepAt r p a l at_ free size) (stepLevel r p a l at_ free size) = 0 then 0 else 6) else 2) else 450) else 450
def cstS (r p a l at_ free size : Int) : Int := if cstE r p a l at_ free size = 0 then stepStart r a l at_ free else 0
def cstA (r p a l at_ free size : Int) : Int := if cstE r p a l at_ free size = 0 then stepAt r p a l at_ free size else 0
def cstL (r p a l at_ free size : Int) : Int := if cstE r p a l at_ free size = 0 then stepLevel r p a l at_ free size else 0
theorem step_le {r p a l at_ free size : Int} (h : at_ ≤ a) : stepStart r a l at_ free = max free (a + (max 0 (-l) + r - 1) / r) ∧ stepLevel r p a l at_ free size = l + r * (stepStart r a l at_ free - a) + (r * p - 1048576) * size := by
  have e1 : idleA a at_ = a := by unfold idleA; omega
  have e2 : idleL r a l at_ = l := by unfold idleL; rw [if_pos h]
  unfold stepLevel stepStart
  rw [e1, e2]
  exact ⟨rfl, rfl⟩
theorem step_gt {r p a l at_ free size : Int} (h : ¬ at_ ≤ a) : stepStart r a l at_ free = max free (at_ + (max 0 (-min 0 (l + r * (at_ - a))) + r - 1) / r) ∧ stepLevel r p a l at_ free size = min 0 (l + r * (at_ - a)) + r * (stepStart r a l at_ free - at_) + (r * p - 1048576) * size := by
  have e1 : idleA a at_ = at_ := by unfold idleA; omega
  have e2 : idleL r a l at_ = min 0 (l + r * (at_ - a)) := by unfold idleL; rw [if_neg h]
  unfold stepLevel stepStart
  rw [e1, e2]
  exact ⟨rfl, rfl⟩
theorem slopeB_of {r p : Int} (h : slopeE r p = 0) : slopeB r p = true := slopeB_iff.2 (slopeE_ok h)
theorem stateB_of {r p : Int} (h : stateE r p = 0) : stateB r p = true := stateB_iff.2 (stateE_ok h)
theorem slopeB_not {r p : Int} (h : ¬ slopeE r p = 0) : slopeB r p = false := by
  unfold slopeE at h
  split at h
  · exact absurd rfl h
  · simpa using ‹¬ slopeB r p = true›
theorem stateB_not {r p : Int} (h : ¬ stateE r p = 0) : stateB r p = false := by
  unfold stateE at h
  split at h
  · exact absurd rfl h
  · simpa using ‹¬ stateB r p = true›
theorem trB_of {l : List (Int × Int)} (h : trE l = 0) : trB l = true := by
  unfold trE at h
  split at h
  · assumption
  · cases h
theorem trB_not {l : List (Int × Int)} (h : ¬ trE l = 0) : trB l = false := by
  unfold trE at h
  split at h
  · exact absurd rfl h
  · simpa using ‹¬ trB l = true›
end Go.Proofs.Ytjepnlebmgkomaa
