/-
  Slices of records of integers: how they are read.
-/
import Derived.Test.YtogeficooemngaaEng
namespace Go.Proofs.Ytogeficooemngaa
set_option linter.unusedVariables false
/-- Field j of record k. -/
def rc (l : List (List Int)) (k j : Nat) : Int := ((l[k]?).getD []).getD j 0
def flatR (l : List (List Int)) : List Value := l.flatMap fun x => x.map (Value.int .i64)
def WR (n : Nat) (l : List (List Int)) : Prop := ∀ x ∈ l, x.length = n
theorem WR.tail {n : Nat} {x : List Int} {l : List (List Int)} (h : WR n (x :: l)) : WR n l := fun y hy => h y (List.mem_cons_of_mem _ hy)
theorem WR.head {n : Nat} {x : List Int} {l : List (List Int)} (h : WR n (x :: l)) : x.length = n := h x (List.mem_cons_self ..)
theorem flatR_length {n : Nat} : ∀ {l : List (List Int)}, WR n l → (flatR l).length = l.length * n
  | [], _ => by simp [flatR]
  | x :: r, h => by
    have ih := flatR_length h.tail
    have h0 := h.head
    simp only [flatR, List.flatMap_cons, List.length_append, List.length_map, List.length_cons] at *
    rw [ih, h0, Nat.succ_mul]
    omega
theorem rc_at {n : Nat} : ∀ {l : List (List Int)} {k i : Nat}, WR n l → k < l.length → i < n → (flatR l)[k * n + i]? = some (.int .i64 (rc l k i))
  | x :: r, 0, i, h, _, hi => by
    have h0 := h.head
    simp only [flatR, List.flatMap_cons, Nat.zero_mul, Nat.zero_add]
    rw [List.getElem?_append_left (by simp; omega)]
    simp [rc, h0, hi, List.getD_eq_getElem?_getD]
  | x :: r, k + 1, i, h, hk, hi => by
    have h0 := h.head
    have ih := rc_at (i := i) h.tail (k := k) (by simpa using hk) hi
    simp only [flatR, List.flatMap_cons]
    rw [List.getElem?_append_right (by simp; rw [Nat.succ_mul]; omega)]
    rw [show (k + 1) * n + i - (x.map (Value.int .i64)).length = k * n + i by simp; rw [h0, Nat.succ_mul]; omega]
    exact ih
theorem rc_sub {n f m : Nat} {l : List (List Int)} {k : Nat} {us : List Value} (h : WR n l) (hk : k < l.length) (hm : f + m ≤ n) (hu : us = (List.range m).map fun i => .int .i64 (rc l k (f + i))) : ∀ i u, us[i]? = some u → (flatR l)[k * n + f + i]? = some u := fun i u hi => by
  subst hu
  obtain ⟨hl, e⟩ := List.getElem?_eq_some_iff.1 hi
  simp at hl
  rw [Nat.add_assoc, rc_at h hk (by omega)]
  simpa using e
end Go.Proofs.Ytogeficooemngaa
