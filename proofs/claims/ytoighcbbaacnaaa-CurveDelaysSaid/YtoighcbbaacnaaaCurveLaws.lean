/-
  Curves in plain words: the bound of the delay.
-/
import Derived.Test.YtoighcbbaacnaaaCurvePlain
import Derived.Test.YtoighcbbaacnaaaBkPlain
namespace Go.Proofs.Ytoighcbbaacnaaa
set_option linter.unusedVariables false
def bkAll (l : List (Int × Int)) : Bool := l.all (fun x => decide (bkE x.1 x.2 = 0))
theorem bkAll_yes {l : List (Int × Int)} (h : ∀ j, j < l.length → bkE (pr l j).1 (pr l j).2 = 0) : bkAll l = true := all_of h
theorem bkAll_get {l : List (Int × Int)} (h : bkAll l = true) {k : Nat} (hk : k < l.length) : bkE (pr l k).1 (pr l k).2 = 0 := of_decide_eq_true (List.all_eq_true.1 h _ (List.mem_of_getElem? (pr_some hk)))
theorem bkAll_no {l : List (Int × Int)} {k : Nat} (hk : k < l.length) (h : ¬ bkE (pr l k).1 (pr l k).2 = 0) : ¬ bkAll l = true := fun q => h (bkAll_get q hk)
def dlE (r t : Int) (l : List (Int × Int)) : Int := if l.length = 0 then 2 else if 12 < l.length then 3 else if bkAll l = true then (if svE r t = 0 then (if (clF (dAll r l l.length)).2 = true then 0 else 141) else 140) else 130
def dlV (r t : Int) (l : List (Int × Int)) : Int := if dlE r t l = 0 then t + (clF (dAll r l l.length)).1 else 0
theorem dl_no {r t e : Int} {l : List (Int × Int)} (h : dlE r t l = e) (he : e ≠ 0) : dlE r t l = e ∧ dlV r t l = 0 := ⟨h, by unfold dlV; rw [if_neg (by rw [h]; exact he)]⟩
theorem dl_2 {r t : Int} {l : List (Int × Int)} (h : (l.length : Int) = 0) : dlE r t l = 2 ∧ dlV r t l = 0 := dl_no (by unfold dlE; rw [if_pos (by omega)]) (by decide)
theorem dl_3 {r t : Int} {l : List (Int × Int)} (h : 12 < (l.length : Int)) : dlE r t l = 3 ∧ dlV r t l = 0 := dl_no (by unfold dlE; rw [if_neg (by omega), if_pos (by omega)]) (by decide)
theorem dl_130 {r t : Int} {l : List (Int × Int)} (h0 : ¬ (l.length : Int) = 0) (h1 : ¬ 12 < (l.length : Int)) (h : ¬ bkAll l = true) : dlE r t l = 130 ∧ dlV r t l = 0 := dl_no (by unfold dlE; rw [if_neg (by omega), if_neg (by omega), if_neg h]) (by decide)
theorem dl_140 {r t : Int} {l : List (Int × Int)} (h0 : ¬ (l.length : Int) = 0) (h1 : ¬ 12 < (l.length : Int)) (h : bkAll l = true) (hs : ¬ svE r t = 0) : dlE r t l = 140 ∧ dlV r t l = 0 := dl_no (by unfold dlE; rw [if_neg (by omega), if_neg (by omega), if_pos h, if_neg hs]) (by decide)
theorem dl_141 {r t : Int} {l : List (Int × Int)} (h0 : ¬ (l.length : Int) = 0) (h1 : ¬ 12 < (l.length : Int)) (h : bkAll l = true) (hs : svE r t = 0) (hf : ¬ (clF (dAll r l l.length)).2 = true) : dlE r t l = 141 ∧ dlV r t l = 0 := dl_no (by unfold dlE; rw [if_neg (by omega), if_neg (by omega), if_pos h, if_pos hs, if_neg hf]) (by decide)
theorem dl_0 {r t : Int} {l : List (Int × Int)} (h0 : ¬ (l.length : Int) = 0) (h1 : ¬ 12 < (l.length : Int)) (h : bkAll l = true) (hs : svE r t = 0) (hf : (clF (dAll r l l.length)).2 = true) : dlE r t l = 0 ∧ dlV r t l = t + (clF (dAll r l l.length)).1 := by
  have e : dlE r t l = 0 := by unfold dlE; rw [if_neg (by omega), if_neg (by omega), if_pos h, if_pos hs, if_pos hf]
  exact ⟨e, by unfold dlV; rw [if_pos e]⟩
def inD (x : Int) : Prop := 0 ≤ x ∧ x ≤ 1099511627776
theorem clF_in {P : Int → Prop} (h0 : P 0) : ∀ (L : List Int) (s : Int × Bool), P s.1 → (∀ x ∈ L, P x) → P (L.foldl clS s).1
  | [], s, hs, _ => hs
  | x :: L, s, hs, h => by
    refine clF_in h0 L (clS s x) ?_ (fun y hy => h y (List.mem_cons_of_mem _ hy))
    unfold clS
    split
    · exact hs
    · exact h x (List.mem_cons_self ..)
theorem dIn_in {r : Int} {q : Int × Int} {l : List (Int × Int)} (hr : 1 ≤ r ∧ r ≤ 2097152) (hq : 1 ≤ q.1 ∧ q.1 ≤ 1048576 ∧ 1 ≤ q.2 ∧ q.2 ≤ 2097152) (hqr : q.2 ≤ r) (h : ∀ j, j < l.length → 1 ≤ (pr l j).1 ∧ (pr l j).1 ≤ 1048576 ∧ 1 ≤ (pr l j).2 ∧ (pr l j).2 ≤ 2097152) : ∀ k, k ≤ l.length → ∀ x ∈ dIn r q l k, inD x
  | 0, _, x, hx => by cases hx
  | k + 1, hk, x, hx => by
    by_cases c : (pr l k).2 ≤ r ∨ q.1 ≤ (pr l k).1
    · rw [dIn_skip c] at hx; exact dIn_in hr hq hqr h k (by omega) x hx
    · rw [dIn_take c] at hx
      rcases List.mem_append.1 hx with z | z
      · exact dIn_in hr hq hqr h k (by omega) x z
      · have e := List.mem_singleton.1 z
        have t := h k (by omega)
        have b := crs_bd hr t hq (by omega) hqr (by omega)
        have a1 : q.1 * ((pr l k).2 - q.2) ≤ 1048576 * ((pr l k).2 - q.2) := Int.mul_le_mul_of_nonneg_right (by omega) (by omega)
        have a2 : 1 * ((pr l k).2 - q.2) ≤ r * ((pr l k).2 - q.2) := Int.mul_le_mul_of_nonneg_right (by omega) (by omega)
        rw [e]
        exact ⟨cq_nn b.2.2.2.1 (by omega), cq_le b.2.2.2.1 (by omega)⟩
theorem dAll_in {r : Int} {l : List (Int × Int)} (hr : 1 ≤ r ∧ r ≤ 2097152) (h : ∀ j, j < l.length → 1 ≤ (pr l j).1 ∧ (pr l j).1 ≤ 1048576 ∧ 1 ≤ (pr l j).2 ∧ (pr l j).2 ≤ 2097152) : ∀ k, k ≤ l.length → ∀ x ∈ dAll r l k, inD x
  | 0, _, x, hx => by cases hx
  | k + 1, hk, x, hx => by
    by_cases c : r < (pr l k).2
    · rw [dAll_skip c] at hx; exact dAll_in hr h k (by omega) x hx
    · rw [dAll_take c] at hx
      have t := h k (by omega)
      rcases List.mem_append.1 hx with z | z
      · exact dAll_in hr h k (by omega) x z
      · rcases List.mem_cons.1 z with e | z
        · rw [e]
          exact ⟨cq_nn hr.1 (by omega), cq_le hr.1 (by omega)⟩
        · exact dIn_in hr t (by omega) h l.length (Nat.le_refl _) x z
theorem bk_all {l : List (Int × Int)} (h : bkAll l = true) : ∀ j, j < l.length → 1 ≤ (pr l j).1 ∧ (pr l j).1 ≤ 1048576 ∧ 1 ≤ (pr l j).2 ∧ (pr l j).2 ≤ 2097152 := fun j hj => bkE_ok (bkAll_get h hj)
theorem cl_bd {r : Int} {l : List (Int × Int)} (hr : 1 ≤ r ∧ r ≤ 2097152) (h : bkAll l = true) : 0 ≤ (clF (dAll r l l.length)).1 ∧ (clF (dAll r l l.length)).1 ≤ 1099511627776 :=
  clF_in (P := inD) (by unfold inD; omega) _ (0, false) (show inD 0 by unfold inD; omega) (dAll_in hr (bk_all h) l.length (Nat.le_refl _))
end Go.Proofs.Ytoighcbbaacnaaa
