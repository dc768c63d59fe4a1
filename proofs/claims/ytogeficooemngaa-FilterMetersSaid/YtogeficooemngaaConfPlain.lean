/-
  Conforming to a bucket, in plain words: by levels, by intervals, and frame after frame.
-/
import Derived.Test.YtogeficooemngaaCfA
namespace Go.Proofs.Ytogeficooemngaa
set_option linter.unusedVariables false
theorem pr_app_left {l m : List (Int × Int)} {k : Nat} (h : k < l.length) : pr (l ++ m) k = pr l k := by
  unfold pr
  rw [List.getD_eq_getElem?_getD, List.getD_eq_getElem?_getD, List.getElem?_append_left h]
theorem pr_app_here (l : List (Int × Int)) (x : Int × Int) : pr (l ++ [x]) l.length = x := by simp [pr]
theorem laN_app {l m : List (Int × Int)} {k : Nat} (h : k ≤ l.length) : laN (l ++ m) k = laN l k := by
  cases k with
  | zero => rfl
  | succ k => simp only [laN]; rw [pr_app_left (by omega)]
theorem lvN_app {b r : Int} {l m : List (Int × Int)} : ∀ {k : Nat}, k ≤ l.length → lvN b r (l ++ m) k = lvN b r l k
  | 0, _ => rfl
  | k + 1, h => by simp only [lvN]; rw [pr_app_left (by omega), laN_app (by omega), lvN_app (by omega)]
theorem trE_of {l : List (Int × Int)} (hl : l.length ≤ 200) (h : ∀ i, i < l.length → laN l i ≤ (pr l i).1 ∧ (pr l i).1 ≤ 1099511627776 ∧ 1 ≤ (pr l i).2 ∧ (pr l i).2 ≤ 1048576) : trE l = 0 :=
  trE_yes hl (by have := trOk_ofPr h l.length 0 (by omega); simpa [laN] using this)
theorem trE_snoc {l : List (Int × Int)} {t s : Int} (h : trE l = 0) (hl : l.length < 200) (h1 : laN l l.length ≤ t) (h2 : t ≤ 1099511627776) (h3 : 1 ≤ s ∧ s ≤ 1048576) : trE (l ++ [(t, s)]) = 0 := by
  refine trE_of (by simp; omega) fun i hi => ?_
  by_cases e : i < l.length
  · have := tr_all h i e
    rw [laN_app (by omega), pr_app_left e]
    omega
  · have e : i = l.length := by simp at hi; omega
    subst e
    rw [laN_app (Nat.le_refl _), pr_app_here]
    exact ⟨h1, h2, h3.1, h3.2⟩
theorem firstI_neg {b r : Int} {l : List (Int × Int)} (h : firstI b r l < 0) : ∀ j, j < l.length → 0 ≤ lvN b r l (j + 1) := by
  unfold firstI at h
  cases e : (List.range l.length).find? (fun j => decide (lvN b r l (j + 1) < 0)) with
  | none =>
    rw [List.find?_eq_none] at e
    intro j hj
    have := e j (List.mem_range.2 hj)
    simpa using this
  | some k =>
    rw [e] at h
    simp at h
    omega
theorem cf_iff {b r : Int} {l : List (Int × Int)} : cfB b r l = true ↔ ckE b r l = 0 ∧ ∀ j, j < l.length → 0 ≤ lvN b r l (j + 1) := by
  unfold cfB
  rw [decide_eq_true_eq]
  constructor
  · rintro ⟨h1, h2⟩
    exact ⟨h1, firstI_neg h2⟩
  · rintro ⟨h1, h2⟩
    exact ⟨h1, by rw [firstI_none h2]; decide⟩
theorem cf_no {b r : Int} {l : List (Int × Int)} {j : Nat} (hj : j < l.length) (h : lvN b r l (j + 1) < 0) : cfB b r l = false := by
  cases e : cfB b r l with
  | false => rfl
  | true =>
    have := (cf_iff.1 e).2 j hj
    omega
/-- A bucket behind the frames l that have passed it, at a time. -/
structure Bkt (b r la lev : Int) (l : List (Int × Int)) : Prop where
  bk : bkE b r = 0
  tr : trE l = 0
  las : laN l l.length ≤ la
  lev : lev = up b r (lvN b r l l.length) (la - laN l l.length)
  pos : ∀ j, j < l.length → 0 ≤ lvN b r l (j + 1)
theorem Bkt.nil {b r : Int} (h : bkE b r = 0) : Bkt b r 0 (b * 1048576) [] := by
  refine ⟨h, rfl, by simp [laN], ?_, fun j hj => by simp at hj⟩
  simp [up, lvN, laN]
theorem Bkt.wait {b r la lev t : Int} {l : List (Int × Int)} (H : Bkt b r la lev l) (h : la ≤ t) : Bkt b r t (up b r lev (t - la)) l := by
  have hb := bkE_ok H.bk
  have h1 := H.las
  refine ⟨H.bk, H.tr, by omega, ?_, H.pos⟩
  rw [H.lev, up_up (by omega) (by omega) (by omega), show la - laN l l.length + (t - la) = t - laN l l.length by omega]
theorem Bkt.last {b r la lev t s : Int} {l : List (Int × Int)} (H : Bkt b r la lev l) (h : la ≤ t) : lvN b r (l ++ [(t, s)]) (l.length + 1) = up b r lev (t - la) - s * 1048576 := by
  have e : lvN b r (l ++ [(t, s)]) (l.length + 1) = up b r (lvN b r l l.length) (t - laN l l.length) - s * 1048576 := by
    simp only [lvN]
    rw [lvN_app (Nat.le_refl _), pr_app_here, laN_app (Nat.le_refl _)]
    rfl
  rw [e, (H.wait h).lev]
theorem Bkt.tr' {b r la lev t s : Int} {l : List (Int × Int)} (H : Bkt b r la lev l) (h : la ≤ t) (h2 : t ≤ 1099511627776) (h3 : 1 ≤ s ∧ s ≤ 1048576) (hl : l.length < 200) : trE (l ++ [(t, s)]) = 0 := by
  have := H.las
  exact trE_snoc H.tr hl (by omega) h2 h3
theorem Bkt.snoc {b r la lev t s : Int} {l : List (Int × Int)} (H : Bkt b r la lev l) (h : la ≤ t) (h2 : t ≤ 1099511627776) (h3 : 1 ≤ s ∧ s ≤ 1048576) (hl : l.length < 200) (hn : s * 1048576 ≤ up b r lev (t - la)) :
    Bkt b r t (up b r lev (t - la) - s * 1048576) (l ++ [(t, s)]) := by
  have hlast := H.last (s := s) h
  have hup : up b r lev (t - la) ≤ b * 1048576 := by unfold up; omega
  have e1 : laN (l ++ [(t, s)]) (l ++ [(t, s)]).length = t := by
    rw [List.length_append]
    show (pr (l ++ [(t, s)]) l.length).1 = t
    rw [pr_app_here]
  have e2 : lvN b r (l ++ [(t, s)]) (l ++ [(t, s)]).length = up b r lev (t - la) - s * 1048576 := by
    rw [List.length_append]
    exact hlast
  refine ⟨H.bk, H.tr' h h2 h3 hl, by omega, ?_, fun j hj => ?_⟩
  · rw [e1, e2]
    unfold up at *
    simp
    omega
  · by_cases e : j < l.length
    · rw [lvN_app (by omega)]
      exact H.pos j e
    · have e : j = l.length := by simp at hj; omega
      subst e
      rw [hlast]
      omega
theorem Bkt.ck {b r la lev : Int} {l : List (Int × Int)} (H : Bkt b r la lev l) : ckE b r l = 0 := ckE_zero H.bk H.tr
theorem Bkt.yes {b r la lev : Int} {l : List (Int × Int)} (H : Bkt b r la lev l) : cfB b r l = true := cf_iff.2 ⟨H.ck, H.pos⟩
theorem Bkt.fits {b r la lev t s : Int} {l : List (Int × Int)} (H : Bkt b r la lev l) (h : la ≤ t) (h2 : t ≤ 1099511627776) (h3 : 1 ≤ s ∧ s ≤ 1048576) (hl : l.length < 200) :
    cfB b r (l ++ [(t, s)]) = decide (s * 1048576 ≤ up b r lev (t - la)) := by
  by_cases hn : s * 1048576 ≤ up b r lev (t - la)
  · rw [decide_eq_true hn]
    exact (H.snoc h h2 h3 hl hn).yes
  · rw [decide_eq_false hn]
    exact cf_no (j := l.length) (by simp) (by rw [H.last h]; omega)
/-- The octets of the first k frames. -/
def sumN (l : List (Int × Int)) : Nat → Int
  | 0 => 0
  | k + 1 => sumN l k + (pr l k).2
theorem sumN_bd {l : List (Int × Int)} (h : trE l = 0) : ∀ k, k ≤ l.length → 0 ≤ sumN l k ∧ sumN l k ≤ 1048576 * (k : Int)
  | 0, _ => by simp [sumN]
  | k + 1, hk => by
    have := sumN_bd h k (by omega)
    have := tr_all h k (by omega)
    simp only [sumN]
    omega
theorem sumN_mono {l : List (Int × Int)} (h : trE l = 0) {i : Nat} : ∀ {k : Nat}, i ≤ k → k ≤ l.length → sumN l i ≤ sumN l k
  | 0, h1, _ => by
    obtain rfl : i = 0 := by omega
    omega
  | k + 1, h1, h2 => by
    by_cases e : i = k + 1
    · subst e; omega
    · have := sumN_mono h (i := i) (k := k) (by omega) (by omega)
      have := tr_all h k (by omega)
      simp only [sumN]
      omega
theorem at_mono {l : List (Int × Int)} (h : trE l = 0) {i : Nat} : ∀ {k : Nat}, i ≤ k → k < l.length → (pr l i).1 ≤ (pr l k).1
  | 0, h1, _ => by
    obtain rfl : i = 0 := by omega
    omega
  | k + 1, h1, h2 => by
    by_cases e : i = k + 1
    · subst e; omega
    · have := at_mono h (i := i) (k := k) (by omega) (by omega)
      have := tr_all h (k + 1) (by omega)
      simp only [laN] at this
      omega
theorem le_lvN {b r : Int} (hr : 0 ≤ r) {l : List (Int × Int)} (h : trE l = 0) : ∀ j, j < l.length → ∀ z : Int, z ≤ lvN b r l (j + 1) ↔ ∀ i, i ≤ j → z ≤ b * 1048576 + r * ((pr l j).1 - (pr l i).1) - 1048576 * (sumN l (j + 1) - sumN l i)
  | 0, hj, z => by
    have t := tr_all h 0 hj
    have m := Int.mul_nonneg hr (show 0 ≤ (pr l 0).1 - laN l 0 by omega)
    simp only [lvN]
    constructor
    · intro hz i hi
      obtain rfl : i = 0 := by omega
      rw [Int.sub_self, Int.mul_zero]
      simp only [sumN]
      omega
    · intro H
      have := H 0 (by omega)
      rw [Int.sub_self, Int.mul_zero] at this
      simp only [sumN] at this
      omega
  | j + 1, hj, z => by
    have ih := le_lvN (b := b) hr h j (by omega) (z + (pr l (j + 1)).2 * 1048576 - r * ((pr l (j + 1)).1 - (pr l j).1))
    have e : z ≤ lvN b r l (j + 1 + 1) ↔ z + (pr l (j + 1)).2 * 1048576 ≤ b * 1048576 ∧ z + (pr l (j + 1)).2 * 1048576 - r * ((pr l (j + 1)).1 - (pr l j).1) ≤ lvN b r l (j + 1) := by
      rw [show lvN b r l (j + 1 + 1) = min (b * 1048576) (lvN b r l (j + 1) + r * ((pr l (j + 1)).1 - (pr l j).1)) - (pr l (j + 1)).2 * 1048576 from rfl]
      omega
    have es : sumN l (j + 1 + 1) = sumN l (j + 1) + (pr l (j + 1)).2 := rfl
    rw [e, ih, es]
    constructor
    · rintro ⟨h1, h2⟩ i hi
      by_cases q : i = j + 1
      · subst q
        rw [Int.sub_self, Int.mul_zero]
        omega
      · have h3 := h2 i (by omega)
        have e3 : r * ((pr l (j + 1)).1 - (pr l i).1) = r * ((pr l (j + 1)).1 - (pr l j).1) + r * ((pr l j).1 - (pr l i).1) := by rw [← Int.mul_add]; congr 1; omega
        omega
    · intro H
      refine ⟨?_, fun i hi => ?_⟩
      · have := H (j + 1) (by omega)
        rw [Int.sub_self, Int.mul_zero] at this
        omega
      · have h3 := H i (by omega)
        have e3 : r * ((pr l (j + 1)).1 - (pr l i).1) = r * ((pr l (j + 1)).1 - (pr l j).1) + r * ((pr l j).1 - (pr l i).1) := by rw [← Int.mul_add]; congr 1; omega
        omega
/-- An interval conforms. -/
def okIJ (b r : Int) (l : List (Int × Int)) (i j : Nat) : Prop := (sumN l (j + 1) - sumN l i - b) * 1048576 ≤ r * ((pr l j).1 - (pr l i).1)
theorem cf_int {b r : Int} {l : List (Int × Int)} (hc : ckE b r l = 0) : cfB b r l = true ↔ ∀ i j, i ≤ j → j < l.length → okIJ b r l i j := by
  have hb := ckE_bk hc
  have ht := ckE_tr hc
  rw [cf_iff]
  constructor
  · rintro ⟨_, H⟩ i j hij hj
    have := (le_lvN (by omega) ht j hj 0).1 (H j hj) i hij
    unfold okIJ
    omega
  · intro H
    refine ⟨hc, fun j hj => (le_lvN (by omega) ht j hj 0).2 fun i hi => ?_⟩
    have := H i j hi hj
    unfold okIJ at this
    omega
theorem cf_bad {b r : Int} {l : List (Int × Int)} (hc : ckE b r l = 0) {i j : Nat} (hij : i ≤ j) (hj : j < l.length) (h : ¬ okIJ b r l i j) : cfB b r l = false := by
  cases e : cfB b r l with
  | false => rfl
  | true => exact absurd ((cf_int hc).1 e i j hij hj) h
/-- All intervals that begin ahead of i, and those that begin at i and end ahead of j. -/
def OkTo (b r : Int) (l : List (Int × Int)) (i j : Nat) : Prop := (∀ p q, p < i → p ≤ q → q < l.length → okIJ b r l p q) ∧ ∀ q, i ≤ q → q < j → okIJ b r l i q
theorem OkTo.zero (b r : Int) (l : List (Int × Int)) : OkTo b r l 0 0 := ⟨fun p q h => by omega, fun q h1 h2 => by omega⟩
theorem OkTo.next {b r : Int} {l : List (Int × Int)} {i j : Nat} (h : OkTo b r l i j) (ho : okIJ b r l i j) : OkTo b r l i (j + 1) := ⟨h.1, fun q h1 h2 => by
  by_cases e : q = j
  · subst e; exact ho
  · exact h.2 q h1 (by omega)⟩
theorem OkTo.turn {b r : Int} {l : List (Int × Int)} {i j : Nat} (h : OkTo b r l i j) (hj : l.length ≤ j) : OkTo b r l (i + 1) (i + 1) := ⟨fun p q h1 h2 h3 => by
  by_cases e : p = i
  · subst e; exact h.2 q h2 (by omega)
  · exact h.1 p q (by omega) h2 h3, fun q h1 h2 => by omega⟩
theorem OkTo.all {b r : Int} {l : List (Int × Int)} {i j : Nat} (h : OkTo b r l i j) (hi : l.length ≤ i) (hc : ckE b r l = 0) : cfB b r l = true := (cf_int hc).2 fun p q h1 h2 => h.1 p q (by omega) h1 h2
/-- The part of a list that conforms: frames that do not are left out. -/
def cfPick (b r : Int) : List (Int × Int) → List (Int × Int) → List (Int × Int)
  | out, [] => out
  | out, x :: t => cfPick b r (if cfB b r (out ++ [x]) = true then out ++ [x] else out) t
def cfTr (b r : Int) (l : List (Int × Int)) : List (Int × Int) := cfPick b r [] l
theorem cfPick_inv {b r : Int} (p : List (Int × Int) → List (Int × Int) → Prop) : ∀ (l out : List (Int × Int)), p out l → (∀ out x t, p out (x :: t) → p (if cfB b r (out ++ [x]) = true then out ++ [x] else out) t) → p (cfPick b r out l) []
  | [], out, h, _ => h
  | x :: t, out, h, hs => cfPick_inv p t _ (hs out x t h) hs
end Go.Proofs.Ytogeficooemngaa
