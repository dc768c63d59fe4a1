/-
  Valid filters.
-/
import Derived.Test.YtogeficooemngaaFiD
namespace Go.Proofs.Ytogeficooemngaa
open Go.RowKit
set_option linter.unusedVariables false
set_option linter.unusedSimpArgs false

theorem fnd_iff {p : Nat → Bool} {n k : Nat} (hk : k < n) (hp : p k = true) : fnd p n = k ↔ ∀ j, j < k → p j = false := by
  refine ⟨fun h => ?_, fnd_some hk hp⟩
  cases e : (List.range n).find? p with
  | none => unfold fnd at h; rw [e] at h; simp at h; try omega
  | some i =>
    have hi : i = k := by unfold fnd at h; rw [e] at h; simp at h; omega
    subst hi
    rw [List.find?_range_eq_some] at e
    intro j hj
    have := e.2.2 j hj
    simpa using this
theorem okA_iff {l : List (List Int)} {k : Nat} (hk : k < l.length) : okA l k ↔ va7 l k = true ∧ ∀ j, j < k → ¬ (rc l j 0 = rc l k 0 ∧ rc l j 1 = rc l k 1) := by
  unfold okA
  rw [fnd_iff hk (decide_eq_true ⟨rfl, rfl⟩)]
  exact ⟨fun h => ⟨h.1, fun j hj => of_decide_eq_false (h.2 j hj)⟩, fun h => ⟨h.1, fun j hj => decide_eq_false (h.2 j hj)⟩⟩
theorem okP_iff {l : List (List Int)} {k : Nat} (hk : k < l.length) : okP l k ↔ vp5 l k = true ∧ ∀ j, j < k → ¬ rc l j 0 = rc l k 0 := by
  unfold okP
  rw [fnd_iff hk (decide_eq_true rfl)]
  exact ⟨fun h => ⟨h.1, fun j hj => of_decide_eq_false (h.2 j hj)⟩, fun h => ⟨h.1, fun j hj => decide_eq_false (h.2 j hj)⟩⟩
def frB (la lq : List (List Int)) (now : Int) (ls : List Int) (lm : List (List Int)) : Bool := decide (flP la lq now ls lm)
theorem fr_no {la lq lm : List (List Int)} {now : Int} {ls : List Int} (h : ¬ flP la lq now ls lm) : false = frB la lq now ls lm := (decide_eq_false h).symm
theorem fr_yes {la lq lm : List (List Int)} {now : Int} {ls : List Int} (h : flP la lq now ls lm) : true = frB la lq now ls lm := (decide_eq_true h).symm
theorem fl_len {la lq lm : List (List Int)} {now : Int} {ls : List Int} (h : flP la lq now ls lm) : la.length ≤ 64 ∧ lq.length ≤ 64 ∧ ls.length = la.length ∧ lm.length = lq.length ∧ -1000 ≤ now ∧ now ≤ 549755813888 := by
  have z := li_le h.1
  exact ⟨z.1, z.2, h.2.2.1.1, h.2.2.1.2, h.2.1.1, h.2.1.2⟩
theorem fl_A {la lq lm : List (List Int)} {now : Int} {ls : List Int} (h : flP la lq now ls lm) {k : Nat} (hk : k < la.length) : (va7 la k = true ∧ ∀ j, j < k → ¬ (rc la j 0 = rc la k 0 ∧ rc la j 1 = rc la k 1)) ∧ okL la ls k := ⟨(okA_iff hk).1 ((of_decide_eq_true h.1).2.2.1 k hk), h.2.2.2.1 k hk⟩
theorem fl_Q {la lq lm : List (List Int)} {now : Int} {ls : List Int} (h : flP la lq now ls lm) {k : Nat} (hk : k < lq.length) : (vp5 lq k = true ∧ ∀ j, j < k → ¬ rc lq j 0 = rc lq k 0) ∧ okM lq lm now k := ⟨(okP_iff hk).1 ((of_decide_eq_true h.1).2.2.2 k hk), h.2.2.2.2 k hk⟩
theorem vp_of {lq lm : List (List Int)} {k : Nat} (hp : 0 ≤ rc lq k 0 ∧ rc lq k 0 ≤ 47) (hm : mtE (rc lq k 1) (rc lq k 2) (rc lq k 3) (rc lq k 4) (rc lm k 0) (rc lm k 1) (rc lm k 2) = 0) : vp5 lq k = true := decide_eq_true ⟨hp.1, hp.2, (mtE_ok hm).1⟩
end Go.Proofs.Ytogeficooemngaa
