/-
  The token levels behind the arrivals of a trace, and the first negative one: plain words.
-/
import Derived.Test.YtogeficooemngaaBk
namespace Go.Proofs.Ytogeficooemngaa
def laN (l : List (Int × Int)) : Nat → Int
  | 0 => 0
  | k + 1 => (pr l k).1
/-- The token level behind k arrivals. -/
def lvN (b r : Int) (l : List (Int × Int)) : Nat → Int
  | 0 => b * 1048576
  | k + 1 => min (b * 1048576) (lvN b r l k + r * ((pr l k).1 - laN l k)) - (pr l k).2 * 1048576
def lvUp (b r : Int) (l : List (Int × Int)) (k : Nat) : List (Nat × Int) := (List.range k).map fun j => (j, lvN b r l (j + 1))
theorem lvUp_succ (b r : Int) (l : List (Int × Int)) (k : Nat) : lvUp b r l (k + 1) = lvUp b r l k ++ [(k, lvN b r l (k + 1))] := by simp [lvUp, List.range_succ]
theorem lvUp_length (b r : Int) (l : List (Int × Int)) (k : Nat) : (lvUp b r l k).length = k := by simp [lvUp]
/-- All arrivals of a valid trace. -/
theorem tr_all {l : List (Int × Int)} (h : trE l = 0) : ∀ k, k < l.length → laN l k ≤ (pr l k).1 ∧ (pr l k).1 ≤ 1099511627776 ∧ 1 ≤ (pr l k).2 ∧ (pr l k).2 ≤ 1048576 ∧ 0 ≤ laN l k := by
  have h0 := (trE_ok h).2
  have key : ∀ k, k < l.length → trOk (laN l k) (l.drop k) = true ∧ 0 ≤ laN l k := by
    intro k
    induction k with
    | zero => intro _; simpa [laN] using h0
    | succ k ih =>
      intro hk
      obtain ⟨q, q0⟩ := ih (by omega)
      have := tr_here (l := l) (k := k) (la := laN l k) (by omega) q
      exact ⟨this.2.2.2.2, by simp only [laN]; omega⟩
  intro k hk
  obtain ⟨q, q0⟩ := key k hk
  have := tr_here (l := l) (k := k) (la := laN l k) hk q
  exact ⟨by omega, by omega, by omega, by omega, q0⟩
theorem lv_bd {b r : Int} {l : List (Int × Int)} (hk : 1 ≤ b ∧ b ≤ 1048576 ∧ 1 ≤ r ∧ r ≤ 2097152) (h : trE l = 0) : ∀ k, k ≤ l.length → -(1099511627776 * (k : Int)) ≤ lvN b r l k ∧ lvN b r l k ≤ 1099511627776 := by
  intro k
  induction k with
  | zero => intro _; simp only [lvN]; omega
  | succ k ih =>
    intro hl
    have q := ih (by omega)
    have t := tr_all h k (by omega)
    have m : 0 ≤ r * ((pr l k).1 - laN l k) ∧ r * ((pr l k).1 - laN l k) ≤ 2305843009213693952 := mul_bd 0 2097152 0 1099511627776 (by omega) (by omega) (by omega) (by omega) (by decide)
    simp only [lvN]
    omega
/-- The first index with a negative level, or -1. -/
def firstI (b r : Int) (l : List (Int × Int)) : Int := (((List.range l.length).find? fun j => decide (lvN b r l (j + 1) < 0)).map fun j : Nat => (j : Int)).getD (-1)
theorem firstI_none {b r : Int} {l : List (Int × Int)} (h : ∀ j, j < l.length → 0 ≤ lvN b r l (j + 1)) : firstI b r l = -1 := by
  have : (List.range l.length).find? (fun j => decide (lvN b r l (j + 1) < 0)) = none := by
    rw [List.find?_eq_none]
    intro j hj
    have := h j (List.mem_range.1 hj)
    simp
    omega
  unfold firstI
  rw [this]
  rfl
theorem firstI_some {b r : Int} {l : List (Int × Int)} {k : Nat} (hk : k < l.length) (hn : lvN b r l (k + 1) < 0) (h : ∀ j, j < k → 0 ≤ lvN b r l (j + 1)) : firstI b r l = k := by
  have : (List.range l.length).find? (fun j => decide (lvN b r l (j + 1) < 0)) = some k := by
    rw [List.find?_range_eq_some]
    refine ⟨by simpa using hn, List.mem_range.2 hk, fun j hj => ?_⟩
    have := h j hj
    simp
    omega
  unfold firstI
  rw [this]
  rfl
theorem trOk_ofPr {l : List (Int × Int)} (h : ∀ i, i < l.length → laN l i ≤ (pr l i).1 ∧ (pr l i).1 ≤ 1099511627776 ∧ 1 ≤ (pr l i).2 ∧ (pr l i).2 ≤ 1048576) : ∀ (n k : Nat), k + n = l.length → trOk (laN l k) (l.drop k) = true
  | 0, k, e => by rw [List.drop_eq_nil_of_le (by omega)]; rfl
  | n + 1, k, e => by
    rw [drop_at (pr_some (by omega)), trOk, Bool.and_eq_true, decide_eq_true_eq]
    have := h k (by omega)
    exact ⟨⟨this.1, this.2.1, this.2.2.1, this.2.2.2⟩, trOk_ofPr h n (k + 1) (by omega)⟩
end Go.Proofs.Ytogeficooemngaa
