/-
  Plain words on traces (no program): when a trace is valid.
-/
namespace Go.Proofs.Ytogeficooemngaa
def insideB (x lo hi : Int) : Bool := decide (lo ≤ x) && decide (x ≤ hi)
/-- The frames from a time on: times do not fall and are at most 2^40, sizes are from 1 to 2^20. -/
def trOk : Int → List (Int × Int) → Bool
  | _, [] => true
  | last, x :: r => decide (last ≤ x.1 ∧ x.1 ≤ 1099511627776 ∧ 1 ≤ x.2 ∧ x.2 ≤ 1048576) && trOk x.1 r
def trB (l : List (Int × Int)) : Bool := decide (l.length ≤ 200) && trOk 0 l
def trE (l : List (Int × Int)) : Int := if trB l = true then 0 else 131
theorem trOk_cons (last a s : Int) (r : List (Int × Int)) : trOk last ((a, s) :: r) = (decide (last ≤ a ∧ a ≤ 1099511627776 ∧ 1 ≤ s ∧ s ≤ 1048576) && trOk a r) := rfl
theorem drop_at {α : Type} {l : List α} {k : Nat} {x : α} (h : l[k]? = some x) : l.drop k = x :: l.drop (k + 1) := by
  obtain ⟨hk, e⟩ := List.getElem?_eq_some_iff.1 h
  rw [List.drop_eq_getElem_cons hk, e]
theorem at_of_lt {α : Type} {l : List α} {k : Nat} (h : k < l.length) : ∃ x, l[k]? = some x := ⟨l[k], List.getElem?_eq_getElem h⟩
theorem trE_yes {l : List (Int × Int)} (h1 : l.length ≤ 200) (h2 : trOk 0 l = true) : trE l = 0 := by simp [trE, trB, h1, h2]
theorem trE_no {l : List (Int × Int)} (h2 : trOk 0 l = false) : trE l = 131 := by simp [trE, trB, h2]
theorem trE_long {l : List (Int × Int)} (h2 : 200 < l.length) : trE l = 131 := by
  have : ¬ l.length ≤ 200 := by omega
  simp [trE, trB, this]
theorem trB_yes {l : List (Int × Int)} (h1 : l.length ≤ 200) (h2 : trOk 0 l = true) : trB l = true := by simp [trB, h1, h2]
theorem trB_no {l : List (Int × Int)} (h2 : trOk 0 l = false) : trB l = false := by simp [trB, h2]
theorem trB_long {l : List (Int × Int)} (h2 : 200 < l.length) : trB l = false := by
  have : ¬ l.length ≤ 200 := by omega
  simp [trB, this]
/-- One round over a trace: what the rest says, if the frame is right; else the whole is not valid. -/
theorem trOk_next {l : List (Int × Int)} {k : Nat} {last a s : Int} (hx : l[k]? = some (a, s)) (h : trOk 0 l = trOk last (l.drop k)) (hc : last ≤ a ∧ a ≤ 1099511627776 ∧ 1 ≤ s ∧ s ≤ 1048576) : trOk 0 l = trOk a (l.drop (k + 1)) := by
  rw [h, drop_at hx, trOk_cons]; simp [hc]
theorem trOk_stop {l : List (Int × Int)} {k : Nat} {last a s : Int} (hx : l[k]? = some (a, s)) (h : trOk 0 l = trOk last (l.drop k)) (hc : ¬ (last ≤ a ∧ a ≤ 1099511627776 ∧ 1 ≤ s ∧ s ≤ 1048576)) : trOk 0 l = false := by
  rw [h, drop_at hx, trOk_cons, decide_eq_false hc]; rfl
theorem trOk_end {l : List (Int × Int)} {k : Nat} {last : Int} (hk : l.length ≤ k) (h : trOk 0 l = trOk last (l.drop k)) : trOk 0 l = true := by
  rw [h, List.drop_eq_nil_of_le hk]; rfl
theorem trOk_size : ∀ (l : List (Int × Int)) (la : Int), trOk la l = true → ∀ (k : Nat) (t s : Int), l[k]? = some (t, s) → 1 ≤ s ∧ s ≤ 1048576 ∧ la ≤ t ∧ t ≤ 1099511627776
  | [], _, _, k, t, s, h => by simp at h
  | (a, b) :: r, la, h, k, t, s, hx => by
    rw [trOk_cons, Bool.and_eq_true, decide_eq_true_eq] at h
    cases k with
    | zero =>
      simp at hx
      obtain ⟨rfl, rfl⟩ := hx
      omega
    | succ k =>
      have := trOk_size r a h.2 k t s (by simpa using hx)
      omega
theorem trB_size {l : List (Int × Int)} {k : Nat} {t s : Int} (h : trB l = true) (hx : l[k]? = some (t, s)) : 1 ≤ s := by
  simp [trB] at h
  exact (trOk_size l 0 h.2 k t s hx).1
end Go.Proofs.Ytogeficooemngaa
