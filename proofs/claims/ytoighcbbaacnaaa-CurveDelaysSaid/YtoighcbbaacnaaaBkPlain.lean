/-
  The functions of package bucket in plain words: within, sums, the least burst, parts of traces.
-/
import Derived.Test.YtoighcbbaacnaaaConfPlain
import Derived.Test.YtoighcbbaacnaaaNumPlain
namespace Go.Proofs.Ytoighcbbaacnaaa
set_option linter.unusedVariables false
/-- Within. -/
def wiE (b r t : Int) : Int := if bkE b r = 0 then (if 0 ≤ t ∧ t ≤ 1099511627776 then 0 else 2) else 130
def wiV (b r t : Int) : Int := if wiE b r t = 0 then b + r * t / 1048576 else 0
theorem wi_yes {b r t : Int} (h : bkE b r = 0) (ht : 0 ≤ t ∧ t ≤ 1099511627776) : wiE b r t = 0 ∧ wiV b r t = b + r * t / 1048576 := by
  have e : wiE b r t = 0 := by unfold wiE; rw [if_pos h, if_pos ht]
  exact ⟨e, by unfold wiV; rw [if_pos e]⟩
theorem wi_no {b r t e : Int} (he : wiE b r t = e) (hn : e ≠ 0) : wiE b r t = e ∧ wiV b r t = 0 := ⟨he, by unfold wiV; rw [if_neg (by rw [he]; exact hn)]⟩
theorem wi_130 {b r t : Int} (h : ¬ bkE b r = 0) : wiE b r t = 130 ∧ wiV b r t = 0 := wi_no (by unfold wiE; rw [if_neg h]) (by decide)
theorem wi_2 {b r t : Int} (h : bkE b r = 0) (ht : ¬ (0 ≤ t ∧ t ≤ 1099511627776)) : wiE b r t = 2 ∧ wiV b r t = 0 := wi_no (by unfold wiE; rw [if_pos h, if_neg ht]) (by decide)
theorem wi_md {r t : Int} (hr : 1 ≤ r ∧ r ≤ 2097152) (ht : 0 ≤ t ∧ t ≤ 1099511627776) : mdV r t 1048576 = r * t / 1048576 ∧ 0 ≤ r * t / 1048576 ∧ r * t / 1048576 ≤ 2199023255552 := by
  have h0 := Int.mul_nonneg (show 0 ≤ r by omega) ht.1
  have h1 : r * t ≤ 2097152 * 1099511627776 := Int.mul_le_mul hr.2 ht.2 ht.1 (by decide)
  have h2 : 0 ≤ r * t / 1048576 ∧ r * t / 1048576 ≤ 2199023255552 := by omega
  exact ⟨(md_yes (a := r) (b := t) (c := 1048576) ⟨⟨by omega, by omega⟩, ⟨by omega, by omega⟩, by decide, by decide⟩ rfl ⟨by omega, by omega⟩).2, h2.1, h2.2⟩
/-- Sums of buckets. -/
def sB_ : List (Int × Int) → Int
  | [] => 0
  | x :: t => x.1 + sB_ t
def sR_ : List (Int × Int) → Int
  | [] => 0
  | x :: t => x.2 + sR_ t
def smE (l : List (Int × Int)) : Int := if l.length = 0 then 2 else if 12 < l.length then 3 else if l.all (fun x => decide (bkE x.1 x.2 = 0)) = true then (if bkE (sB_ l) (sR_ l) = 0 then 0 else 6) else 130
def smB (l : List (Int × Int)) : Int := if smE l = 0 then sB_ l else 0
def smR (l : List (Int × Int)) : Int := if smE l = 0 then sR_ l else 0
theorem sm_no {l : List (Int × Int)} {e : Int} (he : smE l = e) (hn : e ≠ 0) : smE l = e ∧ smB l = 0 ∧ smR l = 0 := ⟨he, by unfold smB; rw [if_neg (by rw [he]; exact hn)], by unfold smR; rw [if_neg (by rw [he]; exact hn)]⟩
theorem sm_yes {l : List (Int × Int)} (he : smE l = 0) : smE l = 0 ∧ smB l = sB_ l ∧ smR l = sR_ l := ⟨he, by unfold smB; rw [if_pos he], by unfold smR; rw [if_pos he]⟩
theorem sB_app (a : List (Int × Int)) (x : Int × Int) : sB_ (a ++ [x]) = sB_ a + x.1 := by
  induction a with
  | nil => simp [sB_]
  | cons y r ih => simp only [List.cons_append, sB_, ih]; omega
theorem sR_app (a : List (Int × Int)) (x : Int × Int) : sR_ (a ++ [x]) = sR_ a + x.2 := by
  induction a with
  | nil => simp [sR_]
  | cons y r ih => simp only [List.cons_append, sR_, ih]; omega
theorem take_pr {l : List (Int × Int)} {k : Nat} (h : k < l.length) : l.take (k + 1) = l.take k ++ [pr l k] := by rw [List.take_add_one, pr_some h]; rfl
/-- Behind k buckets. -/
structure SmAt (l : List (Int × Int)) (k : Nat) (x y : Int) : Prop where
  ok : ∀ j, j < k → bkE (pr l j).1 (pr l j).2 = 0
  b : x = sB_ (l.take k)
  r : y = sR_ (l.take k)
  lo : 0 ≤ x ∧ x ≤ 1048576 * (k : Int)
  lr : 0 ≤ y ∧ y ≤ 2097152 * (k : Int)
theorem SmAt.zero (l : List (Int × Int)) : SmAt l 0 0 0 := ⟨fun j h => by omega, by simp [sB_], by simp [sR_], by simp, by simp⟩
theorem SmAt.next {l : List (Int × Int)} {k : Nat} {x y : Int} (h : SmAt l k x y) (hk : k < l.length) (hb : bkE (pr l k).1 (pr l k).2 = 0) : SmAt l (k + 1) (x + (pr l k).1) (y + (pr l k).2) := by
  have q := bkE_ok hb
  have := h.lo
  have := h.lr
  refine ⟨fun j hj => ?_, by rw [take_pr hk, sB_app, ← h.b], by rw [take_pr hk, sR_app, ← h.r], by omega, by omega⟩
  by_cases e : j = k
  · subst e; exact hb
  · exact h.ok j (by omega)
theorem all_of {l : List (Int × Int)} (h : ∀ j, j < l.length → bkE (pr l j).1 (pr l j).2 = 0) : l.all (fun x => decide (bkE x.1 x.2 = 0)) = true := by
  rw [List.all_eq_true]
  intro x hx
  obtain ⟨j, hj, e⟩ := List.mem_iff_getElem.1 hx
  have := h j hj
  have e2 := pr_some hj
  rw [List.getElem?_eq_getElem hj, e] at e2
  rw [Option.some.inj e2]
  exact decide_eq_true this
theorem SmAt.bad {l : List (Int × Int)} {k : Nat} (hk : k < l.length) (h1 : l.length ≤ 12) (hb : ¬ bkE (pr l k).1 (pr l k).2 = 0) : smE l = 130 := by
  unfold smE
  rw [if_neg (by omega), if_neg (by omega), if_neg]
  intro h
  have := List.all_eq_true.1 h (pr l k) (List.mem_of_getElem? (pr_some hk))
  exact hb (of_decide_eq_true this)
theorem SmAt.done {l : List (Int × Int)} {k : Nat} {x y : Int} (h : SmAt l k x y) (hk : k = l.length) (h0 : 0 < l.length) (h1 : l.length ≤ 12) : smE l = (if bkE x y = 0 then 0 else 6) ∧ sB_ l = x ∧ sR_ l = y := by
  subst hk
  have hb := h.b
  have hr := h.r
  rw [List.take_length] at hb hr
  refine ⟨?_, hb.symm, hr.symm⟩
  unfold smE
  rw [if_neg (by omega), if_neg (by omega), if_pos (all_of h.ok), ← hb, ← hr]
/-- Parts of traces. -/
theorem pr_take {l : List (Int × Int)} {m k : Nat} (h : k < m) : pr (l.take m) k = pr l k := by
  unfold pr
  rw [List.getD_eq_getElem?_getD, List.getD_eq_getElem?_getD, List.getElem?_take_of_lt h]
theorem laN_take {l : List (Int × Int)} {m k : Nat} (h : k ≤ m) : laN (l.take m) k = laN l k := by
  cases k with
  | zero => rfl
  | succ k => simp only [laN]; rw [pr_take (by omega)]
theorem lvN_take {b r : Int} {l : List (Int × Int)} {m : Nat} : ∀ {k : Nat}, k ≤ m → lvN b r (l.take m) k = lvN b r l k
  | 0, _ => rfl
  | k + 1, h => by simp only [lvN]; rw [pr_take (by omega), laN_take (by omega), lvN_take (by omega)]
theorem trE_take {l : List (Int × Int)} (h : trE l = 0) (m : Nat) : trE (l.take m) = 0 := by
  have hl := (trE_ok h).1
  refine trE_of (by rw [List.length_take]; omega) fun i hi => ?_
  rw [List.length_take] at hi
  have := tr_all h i (by omega)
  rw [laN_take (by omega), pr_take (by omega)]
  omega
theorem cf_take {b r : Int} {l : List (Int × Int)} (hc : ckE b r l = 0) {m : Nat} (hm : m ≤ l.length) : cfB b r (l.take m) = true ↔ ∀ j, j < m → 0 ≤ lvN b r l (j + 1) := by
  rw [cf_iff]
  have hk : ckE b r (l.take m) = 0 := by
    unfold ckE at *
    split at hc
    · rename_i hb; rw [if_pos hb]; exact trE_take hc m
    · cases hc
  constructor
  · rintro ⟨_, h⟩ j hj
    have := h j (by rw [List.length_take]; omega)
    rwa [lvN_take (by omega)] at this
  · intro h
    refine ⟨hk, fun j hj => ?_⟩
    rw [List.length_take] at hj
    rw [lvN_take (by omega)]
    exact h j (by omega)
/-- First. -/
def fiV (b r : Int) (l : List (Int × Int)) : Int := if ckE b r l = 0 then firstI b r l else 0
theorem fiV_yes {b r : Int} {l : List (Int × Int)} (h : ckE b r l = 0) : fiV b r l = firstI b r l := by unfold fiV; rw [if_pos h]
theorem fiV_no {b r : Int} {l : List (Int × Int)} (h : ¬ ckE b r l = 0) : fiV b r l = 0 := by unfold fiV; rw [if_neg h]
/-- The least burst: the greatest demand of all intervals. -/
def dem (r : Int) (l : List (Int × Int)) (i j : Nat) : Int := sumN l (j + 1) - sumN l i - r * ((pr l j).1 - (pr l i).1) / 1048576
def demJ (r : Int) (l : List (Int × Int)) (i : Nat) (x : Int) : Nat → Int
  | 0 => x
  | n + 1 => max (demJ r l i x n) (dem r l i (i + n))
def demI (r : Int) (l : List (Int × Int)) : Nat → Int
  | 0 => 1
  | n + 1 => demJ r l n (demI r l n) (l.length - n)
def leD (r : Int) (l : List (Int × Int)) : Int := demI r l l.length
theorem demJ_le {r : Int} {l : List (Int × Int)} {i : Nat} {x z : Int} : ∀ n, demJ r l i x n ≤ z ↔ x ≤ z ∧ ∀ j, i ≤ j → j < i + n → dem r l i j ≤ z
  | 0 => by
    simp only [demJ]
    exact ⟨fun h => ⟨h, fun j h1 h2 => by omega⟩, fun h => h.1⟩
  | n + 1 => by
    have ih := demJ_le (r := r) (l := l) (i := i) (x := x) (z := z) n
    simp only [demJ]
    constructor
    · intro h
      have q := ih.1 (by omega)
      refine ⟨q.1, fun j h1 h2 => ?_⟩
      by_cases e : j = i + n
      · subst e; omega
      · exact q.2 j h1 (by omega)
    · rintro ⟨h1, h2⟩
      have := ih.2 ⟨h1, fun j a b => h2 j a (by omega)⟩
      have := h2 (i + n) (by omega) (by omega)
      omega
theorem demI_le {r : Int} {l : List (Int × Int)} {z : Int} : ∀ n, n ≤ l.length → (demI r l n ≤ z ↔ 1 ≤ z ∧ ∀ i j, i < n → i ≤ j → j < l.length → dem r l i j ≤ z)
  | 0, _ => by
    simp only [demI]
    exact ⟨fun h => ⟨h, fun i j h1 => by omega⟩, fun h => h.1⟩
  | n + 1, hn => by
    have ih := demI_le (r := r) (l := l) (z := z) n (by omega)
    simp only [demI]
    rw [demJ_le, ih]
    constructor
    · rintro ⟨⟨h1, h2⟩, h3⟩
      refine ⟨h1, fun i j a b c => ?_⟩
      by_cases e : i = n
      · subst e; exact h3 j b (by omega)
      · exact h2 i j (by omega) b c
    · rintro ⟨h1, h2⟩
      exact ⟨⟨h1, fun i j a b c => h2 i j (by omega) b c⟩, fun j a b => h2 n j (by omega) a (by omega)⟩
theorem le_leD {r z : Int} {l : List (Int × Int)} : leD r l ≤ z ↔ 1 ≤ z ∧ ∀ i j, i ≤ j → j < l.length → dem r l i j ≤ z := by
  unfold leD
  rw [demI_le l.length (Nat.le_refl _)]
  exact ⟨fun h => ⟨h.1, fun i j a b => h.2 i j (by omega) a b⟩, fun h => ⟨h.1, fun i j _ a b => h.2 i j a b⟩⟩
theorem leD_one (r : Int) (l : List (Int × Int)) : 1 ≤ leD r l := (le_leD.1 (Int.le_refl _)).1
/-- A trace conforms if and only if the burst is at least the demand. -/
theorem cf_leD {b r : Int} {l : List (Int × Int)} (hc : ckE b r l = 0) : cfB b r l = true ↔ leD r l ≤ b := by
  have hb := ckE_bk hc
  have ht := ckE_tr hc
  rw [cf_int hc, le_leD]
  constructor
  · intro h
    refine ⟨hb.1, fun i j hij hj => ?_⟩
    have := h i j hij hj
    unfold okIJ at this
    unfold dem
    have : (sumN l (j + 1) - sumN l i - b) ≤ r * ((pr l j).1 - (pr l i).1) / 1048576 := by omega
    omega
  · rintro ⟨_, h⟩ i j hij hj
    have := h i j hij hj
    unfold dem at this
    unfold okIJ
    omega
theorem first_leD {b r : Int} {l : List (Int × Int)} (hc : ckE b r l = 0) : firstI b r l < 0 ↔ leD r l ≤ b := by
  rw [← cf_leD hc, cfB_yes hc, decide_eq_true_eq]
def leE (r : Int) (l : List (Int × Int)) : Int := if 1 ≤ r ∧ r ≤ 2097152 then (if trE l = 0 then (if leD r l ≤ 1048576 then 0 else 6) else 131) else 2
def leV (r : Int) (l : List (Int × Int)) : Int := if leE r l = 0 then leD r l else 0
theorem le_no {r e : Int} {l : List (Int × Int)} (he : leE r l = e) (hn : e ≠ 0) : leE r l = e ∧ leV r l = 0 := ⟨he, by unfold leV; rw [if_neg (by rw [he]; exact hn)]⟩
theorem le_2 {r : Int} {l : List (Int × Int)} (h : ¬ (1 ≤ r ∧ r ≤ 2097152)) : leE r l = 2 ∧ leV r l = 0 := le_no (by unfold leE; rw [if_neg h]) (by decide)
theorem le_131 {r : Int} {l : List (Int × Int)} (h : 1 ≤ r ∧ r ≤ 2097152) (ht : ¬ trE l = 0) : leE r l = 131 ∧ leV r l = 0 := le_no (by unfold leE; rw [if_pos h, if_neg ht]) (by decide)
theorem le_6 {r : Int} {l : List (Int × Int)} (h : 1 ≤ r ∧ r ≤ 2097152) (ht : trE l = 0) (hd : ¬ leD r l ≤ 1048576) : leE r l = 6 ∧ leV r l = 0 := le_no (by unfold leE; rw [if_pos h, if_pos ht, if_neg hd]) (by decide)
theorem le_0 {r : Int} {l : List (Int × Int)} (h : 1 ≤ r ∧ r ≤ 2097152) (ht : trE l = 0) (hd : leD r l ≤ 1048576) : leE r l = 0 ∧ leV r l = leD r l := by
  have e : leE r l = 0 := by unfold leE; rw [if_pos h, if_pos ht, if_pos hd]
  exact ⟨e, by unfold leV; rw [if_pos e]⟩
end Go.Proofs.Ytoighcbbaacnaaa
