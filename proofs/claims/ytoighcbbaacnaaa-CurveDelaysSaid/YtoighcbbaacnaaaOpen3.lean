/-
  How a slice of drafts opens, and how it is read.
-/
import Derived.Test.YtoighcbbaacnaaaOpen2
namespace Go.Proofs.Ytoighcbbaacnaaa
set_option maxRecDepth 4000
open Go.ChangeShapes Go.WideShapes Go.ChangeAt Go.RowKit Go.Deep Go.Joins
set_option linter.unusedVariables false
abbrev D4 : Type := Int × Int × Value × Value
def v4 (x : D4) : List Value := [.int .u32 x.1, .int .u32 x.2.1, x.2.2.1, x.2.2.2]
def flat4 (l : List D4) : List Value := l.flatMap v4
def q4 (l : List D4) (k : Nat) : D4 := (l[k]?).getD (0, 0, .slice none 0 0, .slice none 0 0)
def dq1 (l : List D4) (k : Nat) : Int := (q4 l k).1
def dq2 (l : List D4) (k : Nat) : Int := (q4 l k).2.1
theorem flat4_length : ∀ l : List D4, (flat4 l).length = l.length * 4
  | [] => rfl
  | x :: r => by
    have := flat4_length r
    simp only [flat4, List.flatMap_cons, List.length_append, v4, List.length_cons, List.length_nil] at *
    omega
theorem flat4_at : ∀ (l : List D4) (k i : Nat), k < l.length → i < 4 → (flat4 l)[k * 4 + i]? = (v4 (q4 l k))[i]?
  | x :: r, 0, i, _, hi => by
    simp only [flat4, List.flatMap_cons, Nat.zero_mul, Nat.zero_add]
    rw [List.getElem?_append_left (by simp [v4]; omega)]
    rfl
  | x :: r, k + 1, i, hk, hi => by
    have ih := flat4_at r k i (by simpa using hk) hi
    simp only [flat4, List.flatMap_cons]
    rw [List.getElem?_append_right (by simp [v4]; omega)]
    rw [show (k + 1) * 4 + i - (v4 x).length = k * 4 + i by simp [v4]; omega]
    exact ih
theorem q4_all {l : List D4} {k : Nat} (hk : k < l.length) : ∀ i u, (v4 (q4 l k))[i]? = some u → (flat4 l)[k * 4 + i]? = some u := fun i u h => by
  have hi : i < 4 := by have := (List.getElem?_eq_some_iff.1 h).1; simpa [v4] using this
  rw [flat4_at l k i hk hi]
  exact h
theorem open_ds {H : Type} {enc : TypeId × Value → H} {W : World} {T t u s e : TypeId} {f0 f1 f2 f3 : Field} {v : Value} {d : DataW H} {p : List MemPlace} (hT : Try.prog.underlying T = some (.slice t)) (ht : Try.prog.underlying t = some (.struct #[f0, f1, f2, f3])) (hone : oneCellFields Try.prog #[f0, f1, f2, f3] = true) (hC : Try.prog.cellsOf t = 4) (h0 : f0.type = u) (h1 : f1.type = u) (h2 : f2.type = s) (h3 : f3.type = s)
    (hu : Try.prog.underlying u = some (.int .u32)) (hs : Try.prog.underlying s = some (.slice e)) (he : Try.prog.underlying e = some (.int .u16)) (hec : Try.prog.cellsOf e = 1)
    {fuel : Nat} (h : DataW.trod enc Try.prog W 0 (fun _ => true) true fuel T [v] = some (d, p)) :
    ∃ (A : Option Addr) (l : List D4) (c : Nat), v = .slice A l.length c ∧ Ro W A (flat4 l) ∧ l.length ≤ c ∧ c ≤ 9223372036854775807 ∧ ∀ k, k < l.length → (0 ≤ dq1 l k ∧ dq1 l k < 4294967296) ∧ (0 ≤ dq2 l k ∧ dq2 l k < 4294967296) := by
  rcases open_slice hT h with ⟨hcs, _⟩ | ⟨a, len, cap, m, n, D, Pl, hcs, _, hl, hm, hmm, _, hx⟩
  · injection hcs with hcs _
    exact ⟨none, [], 0, hcs, Ro.nil, Nat.le_refl _, by omega, fun k hk => by simp at hk⟩
  · injection hcs with hcs _
    have hm' : m = cap := by simpa using hmm
    have each : ∀ i, i < m → ∃ q : D4, (∀ j, j < 4 → W.cell? (a.add (i * 4 + j)) = (v4 q)[j]?) ∧ (Lit.int .u32 q.1).wf = true ∧ (Lit.int .u32 q.2.1).wf = true := fun i hi => by
      obtain ⟨cs', g1, g2⟩ := hx i hi
      rw [hC] at g1
      obtain ⟨_, hlen, hcell⟩ := World.cells?_some g1
      obtain ⟨bu, ra, Ga, Sa, gaps, sizes, cg, c2, e1, k1, k2, _⟩ := open_draft_cells ht hone hC h0 h1 h2 h3 hu hs he hec hlen g2
      refine ⟨(bu, ra, .slice Ga gaps.length cg, .slice Sa sizes.length c2), fun j hj => ?_, k1, k2⟩
      have := hcell j (by omega)
      rw [add_add] at this
      rw [this, e1]
      rfl
    have pick : ∃ q : Nat → D4, ∀ i, i < m → (∀ j, j < 4 → W.cell? (a.add (i * 4 + j)) = (v4 (q i))[j]?) ∧ (Lit.int .u32 (q i).1).wf = true ∧ (Lit.int .u32 (q i).2.1).wf = true := by
      refine ⟨fun i => if hi : i < m then Classical.choose (each i hi) else (0, 0, .slice none 0 0, .slice none 0 0), fun i hi => ?_⟩
      simp only [hi, dif_pos]
      exact Classical.choose_spec (each i hi)
    obtain ⟨q, hq⟩ := pick
    have hlen : ((List.range len).map q).length = len := by simp
    have hat : ∀ k, k < len → q4 ((List.range len).map q) k = q k := fun k hk => by simp [q4, hk]
    refine ⟨some a, (List.range len).map q, cap, by rw [hlen]; exact hcs, ?_, by rw [hlen]; exact hl, by unfold maxLen at hm; omega, fun k hk => ?_⟩
    · intro j u hu
      have hj : j < len * 4 := by have := (List.getElem?_eq_some_iff.1 hu).1; rw [flat4_length, hlen] at this; exact this
      have g := flat4_at ((List.range len).map q) (j / 4) (j % 4) (by rw [hlen]; omega) (by omega)
      rw [show j / 4 * 4 + j % 4 = j by omega, hu, hat _ (by omega)] at g
      have c := (hq (j / 4) (by omega)).1 (j % 4) (by omega)
      rw [← g, show j / 4 * 4 + j % 4 = j by omega] at c
      obtain ⟨b, off, spot⟩ := a
      have c0 := (hq 0 (by omega)).1 0 (by omega)
      obtain rfl := zero_spot (v := .int .u32 (q 0).1) (by simpa [v4] using c0)
      rw [addr_add] at c
      exact ⟨b, off, rfl, c⟩
    · rw [hlen] at hk
      have w := (hq k (by omega)).2
      have b1 := bounds_u32 w.1
      have b2 := bounds_u32 w.2
      unfold dq1 dq2
      rw [hat k hk]
      omega
theorem slice_nil {H : Type} {enc : TypeId × Value → H} {W : World} {T t : TypeId} {v : Value} {d : DataW H} {p : List MemPlace} (hT : Try.prog.underlying T = some (.slice t)) {fuel : Nat} (h : DataW.trod enc Try.prog W 0 (fun _ => true) true fuel T [v] = some (d, p)) {q : Option Addr} {n c : Nat} (e : v = .slice q n c) (hq : q = none) : n = 0 ∧ c = 0 := by
  subst e hq
  rcases open_slice hT h with ⟨hcs, _⟩ | ⟨a, len, cap, m, n', D, Pl, hcs, _⟩
  · injection hcs with hcs _
    injection hcs with _ h1 h2
    exact ⟨h1, h2⟩
  · injection hcs with hcs _
    injection hcs with h1 _ _
    cases h1
end Go.Proofs.Ytoighcbbaacnaaa
