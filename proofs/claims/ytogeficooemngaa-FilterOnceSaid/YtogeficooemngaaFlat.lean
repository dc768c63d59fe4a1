/-
  Plain facts on flat lists of cells, and the trace with sizes cut to the greatest size.
-/
import Derived.Test.YtogeficooemngaaEng
namespace Go.Proofs.Ytogeficooemngaa
theorem flat2_cons (x : Int × Int) (t : List (Int × Int)) : flat2 (x :: t) = .int .i64 x.1 :: .int .i64 x.2 :: flat2 t := by simp [flat2]
theorem flat2_append (l m : List (Int × Int)) : flat2 (l ++ m) = flat2 l ++ flat2 m := by simp [flat2]
theorem flat2_one (l : List (Int × Int)) : ∀ u ∈ flat2 l, u.oneCell' = true := by
  induction l with
  | nil => intro u h; simp [flat2] at h
  | cons x r ih =>
    intro u h
    rw [flat2_cons] at h
    rcases List.mem_cons.1 h with rfl | h
    · rfl
    · rcases List.mem_cons.1 h with rfl | h
      · rfl
      · exact ih u h
theorem ints_one (kd : IntKind) (l : List Int) : ∀ u ∈ l.map (Value.int kd), u.oneCell' = true := by
  intro u h
  obtain ⟨x, _, rfl⟩ := List.mem_map.1 h
  rfl
theorem pr_zero (x : Int × Int) (r : List (Int × Int)) : pr (x :: r) 0 = x := rfl
theorem pr_succ (x : Int × Int) (r : List (Int × Int)) (k : Nat) : pr (x :: r) (k + 1) = pr r k := by simp [pr]
theorem flat2_setF : ∀ (l : List (Int × Int)) (k : Nat) (u : Int), k < l.length → (flat2 l).set (k * 2) (.int .i64 u) = flat2 (l.set k (u, (pr l k).2))
  | [], k, u, h => by simp at h
  | x :: r, 0, u, h => by rw [flat2_cons, Nat.zero_mul, List.set_cons_zero, List.set_cons_zero, flat2_cons, pr_zero]
  | x :: r, k + 1, u, h => by
    rw [flat2_cons, show (k + 1) * 2 = k * 2 + 1 + 1 by omega, List.set_cons_succ, List.set_cons_succ, List.set_cons_succ, flat2_cons, pr_succ, flat2_setF r k u (by simpa using h)]
theorem flat2_setS : ∀ (l : List (Int × Int)) (k : Nat) (u : Int), k < l.length → (flat2 l).set (k * 2 + 1) (.int .i64 u) = flat2 (l.set k ((pr l k).1, u))
  | [], k, u, h => by simp at h
  | x :: r, 0, u, h => by rw [flat2_cons, Nat.zero_mul, List.set_cons_succ, List.set_cons_zero, List.set_cons_zero, flat2_cons, pr_zero]
  | x :: r, k + 1, u, h => by
    rw [flat2_cons, show (k + 1) * 2 + 1 = k * 2 + 1 + 1 + 1 by omega, List.set_cons_succ, List.set_cons_succ, List.set_cons_succ, flat2_cons, pr_succ, flat2_setS r k u (by simpa using h)]
theorem flat2_set1 {l : List (Int × Int)} {k j : Nat} (u : Int) (h : k < l.length) (e : j = k * 2) : (flat2 l).set j (.int .i64 u) = flat2 (l.set k (u, (pr l k).2)) := by subst e; exact flat2_setF l k u h
theorem flat2_set2 {l : List (Int × Int)} {k j : Nat} (u : Int) (h : k < l.length) (e : j = k * 2 + 1) : (flat2 l).set j (.int .i64 u) = flat2 (l.set k ((pr l k).1, u)) := by subst e; exact flat2_setS l k u h
theorem flat2_set12 {l : List (Int × Int)} {k j : Nat} (x y : Int) (h : k < l.length) (e : j = k * 2) : ((flat2 l).set j (.int .i64 x)).set (j + 1) (.int .i64 y) = flat2 (l.set k (x, y)) := by
  subst e
  have hp : pr (l.set k (x, (pr l k).2)) k = (x, (pr l k).2) := by
    unfold pr
    rw [List.getD_eq_getElem?_getD, List.getElem?_set_self h]
    rfl
  rw [flat2_setF l k x h, flat2_setS _ k y (by simpa using h), hp, List.set_set]
theorem own_nil {B : Nat} {w0 w : World} {L : List (Nat × Option Ent)} (hM : Mem B w0 L w) {k m c e size n : Nat} {A : Option Addr} {xs : List Value} (h : look k L = some (.own (.slice A m c) e size n xs)) (hA : A = none) : m = 0 ∧ c = 0 := by
  subst hA
  have ho : w.ownsRow B e size (.slice none m c) n xs := hM.ok k _ h
  rcases ho.2 with ⟨h0, _⟩ | ⟨g, cap, cur, hv, _⟩
  · injection h0 with _ h1 h2
    exact ⟨h1, h2⟩
  · cases hv
def capX (x : Int × Int) : Int × Int := (x.1, 1 + x.2 % 1542)
def capK (l : List (Int × Int)) (k : Nat) : List (Int × Int) := (l.take k).map capX ++ l.drop k
theorem capK_zero (l : List (Int × Int)) : capK l 0 = l := by simp [capK]
theorem capK_all {l : List (Int × Int)} {k : Nat} (h : l.length ≤ k) : capK l k = l.map capX := by simp [capK, List.take_of_length_le h, List.drop_eq_nil_of_le h]
theorem capK_length (l : List (Int × Int)) (k : Nat) : (capK l k).length = l.length := by simp [capK]; omega
theorem capK_at {l : List (Int × Int)} {k : Nat} (hk : k < l.length) : pr (capK l k) k = pr l k := by
  have h := pr_some hk
  have h2 : (capK l k)[k]? = l[k]? := by
    unfold capK
    rw [List.getElem?_append_right (by simp; omega), List.length_map, List.length_take, List.getElem?_drop]
    congr 1
    omega
  rw [h, pr_some (by rw [capK_length]; exact hk)] at h2
  exact Option.some.inj h2
theorem capK_succ {l : List (Int × Int)} {k : Nat} (hk : k < l.length) : capK l (k + 1) = (capK l k).set k ((pr l k).1, 1 + (pr l k).2 % 1542) := by
  have e : l[k] = pr l k := by
    have := pr_some hk
    rw [List.getElem?_eq_getElem hk] at this
    exact Option.some.inj this
  unfold capK
  rw [List.take_succ_eq_append_getElem hk, e, List.drop_eq_getElem_cons hk, e, List.map_append, List.set_append_right _ _ (by simp; omega)]
  have e1 : k - ((l.take k).map capX).length = 0 := by simp; omega
  rw [e1, List.set_cons_zero]
  simp [capX]
theorem cap_pr {l : List (Int × Int)} {k : Nat} (hk : k < l.length) : pr (l.map capX) k = ((pr l k).1, 1 + (pr l k).2 % 1542) := by
  have h : (l.map capX)[k]? = some (capX (pr l k)) := by rw [List.getElem?_map, pr_some hk]; rfl
  unfold pr
  rw [List.getD_eq_getElem?_getD, h]
  rfl
end Go.Proofs.Ytogeficooemngaa
