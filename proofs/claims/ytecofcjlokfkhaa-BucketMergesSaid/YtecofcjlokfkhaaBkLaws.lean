/-
  Plain facts for the laws of chapter 03.
-/
import Derived.Test.YtecofcjlokfkhaaBkPlain
import Derived.Test.YtecofcjlokfkhaaCfTrPlain
namespace Go.Proofs.Ytecofcjlokfkhaa
set_option linter.unusedVariables false
/-- The first negative level, sought. -/
def BadAt (b r : Int) (l : List (Int × Int)) (k : Nat) (bd : Int) : Prop := (bd = -1 ∧ ∀ j, j < k → 0 ≤ lvN b r l (j + 1)) ∨ (0 ≤ bd ∧ firstI b r l = bd)
theorem BadAt.zero (b r : Int) (l : List (Int × Int)) : BadAt b r l 0 (-1) := .inl ⟨rfl, fun j h => by omega⟩
theorem BadAt.good {b r : Int} {l : List (Int × Int)} {k : Nat} {bd : Int} (h : BadAt b r l k bd) (hb : bd < 0) (hl : ¬ lvN b r l (k + 1) < 0) : BadAt b r l (k + 1) bd := by
  rcases h with ⟨e, h⟩ | ⟨e, h⟩
  · exact .inl ⟨e, fun j hj => by
      by_cases q : j = k
      · subst q; omega
      · exact h j (by omega)⟩
  · omega
theorem BadAt.bad {b r : Int} {l : List (Int × Int)} {k : Nat} {bd : Int} (h : BadAt b r l k bd) (hb : bd < 0) (hk : k < l.length) (hl : lvN b r l (k + 1) < 0) : BadAt b r l (k + 1) (k : Int) := by
  rcases h with ⟨e, h⟩ | ⟨e, h⟩
  · exact .inr ⟨by omega, firstI_some hk hl h⟩
  · omega
theorem BadAt.done {b r : Int} {l : List (Int × Int)} {k : Nat} {bd : Int} (h : BadAt b r l k bd) (hk : l.length ≤ k ∨ 0 ≤ bd) : firstI b r l = bd := by
  rcases h with ⟨e, h⟩ | ⟨_, h⟩
  · rcases hk with q | q
    · rw [e]; exact firstI_none fun j hj => h j (by omega)
    · omega
  · exact h
/-- More rate, less burst. -/
theorem leD_mono {r s : Int} {l : List (Int × Int)} (ht : trE l = 0) (h : r ≤ s) : leD s l ≤ leD r l := by
  rw [le_leD]
  refine ⟨leD_one r l, fun i j hij hj => ?_⟩
  have q := (le_leD.1 (Int.le_refl (leD r l))).2 i j hij hj
  have hm := at_mono ht hij hj
  have hr : r * ((pr l j).1 - (pr l i).1) ≤ s * ((pr l j).1 - (pr l i).1) := Int.mul_le_mul_of_nonneg_right h (by omega)
  unfold dem at *
  omega
theorem leD_nil (r : Int) : leD r [] = 1 := rfl
theorem least_facts {r s : Int} {l : List (Int × Int)} (ht : trE l = 0) (hr : 1 ≤ r ∧ r ≤ s) (hs : s ≤ 2097152) :
    (leE r l = 0 ∨ leE r l = 6) ∧ (leE r l = 6 → 0 < l.length) ∧ (leE r l = 0 → leE s l = 0 ∧ leV s l ≤ leV r l ∧ 1 ≤ leV s l ∧ leV r l ≤ 1048576 ∧ leV r l = leD r l) := by
  have m := leD_mono ht hr.2
  by_cases h : leD r l ≤ 1048576
  · obtain ⟨e1, e2⟩ := le_0 (r := r) (l := l) (by omega) ht h
    obtain ⟨f1, f2⟩ := le_0 (r := s) (l := l) (by omega) ht (by omega)
    refine ⟨.inl e1, (fun q => absurd (e1.symm.trans q) (by decide)), fun _ => ⟨f1, ?_⟩⟩
    have := leD_one s l
    rw [e2, f2]
    exact ⟨m, this, h, rfl⟩
  · obtain ⟨e1, e2⟩ := le_6 (r := r) (l := l) (by omega) ht h
    refine ⟨.inr e1, fun _ => ?_, fun q => absurd (e1.symm.trans q) (by decide)⟩
    rcases Nat.eq_zero_or_pos l.length with z | z
    · have : l = [] := List.eq_nil_of_length_eq_zero z
      subst this
      rw [leD_nil] at h
      omega
    · exact z
theorem cf_fit {b r : Int} {l : List (Int × Int)} (ht : trE l = 0) (hb : 1 ≤ b ∧ b ≤ 1048576) (hr : 1 ≤ r ∧ r ≤ 2097152) : ckE b r l = 0 ∧ cfB b r l = decide (leD r l ≤ b) := by
  have hc : ckE b r l = 0 := ckE_zero (by unfold bkE; rw [if_pos ⟨hb.1, hb.2, hr.1, hr.2⟩]) ht
  refine ⟨hc, ?_⟩
  by_cases q : leD r l ≤ b
  · rw [decide_eq_true q]; exact (cf_leD hc).2 q
  · rw [decide_eq_false q]
    cases e : cfB b r l with
    | false => rfl
    | true => exact absurd ((cf_leD hc).1 e) q
/-- A trace with one arrival replaced. -/
def bentL (l : List (Int × Int)) (x y at_ : Int) : List (Int × Int) := if l.length = 0 then l else l.set (at_ % (l.length : Int)).toNat (x, y)
theorem bentL_length (l : List (Int × Int)) (x y at_ : Int) : (bentL l x y at_).length = l.length := by unfold bentL; split <;> simp
end Go.Proofs.Ytecofcjlokfkhaa
