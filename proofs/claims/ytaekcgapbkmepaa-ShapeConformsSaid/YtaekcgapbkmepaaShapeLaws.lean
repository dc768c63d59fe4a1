/-
  The shaper in plain words: the formula for all pairs of frames; later arrivals; conforming traces; shaping is for free.
-/
import Derived.Test.YtaekcgapbkmepaaShapePlain
import Derived.Test.YtaekcgapbkmepaaHoldsPlain
namespace Go.Proofs.Ytaekcgapbkmepaa
set_option linter.unusedVariables false
theorem elT_le {b r la lv at_ s z : Int} (h : skE b r la lv = 0) (hs : 1 ≤ s ∧ s ≤ b) : elT b r la lv at_ s ≤ z ↔ at_ ≤ z ∧ la ≤ z ∧ s * 1048576 ≤ lv + r * (z - la) := by
  have k := sk_bd h
  have hr : (1 : Int) ≤ r := by omega
  have e : elT b r la lv at_ s ≤ z ↔ cq (elW b r la lv at_ s) r ≤ z - max at_ la := by unfold elT; omega
  rw [e, cq_iff hr]
  have e2 : r * (z - la) = r * (max at_ la - la) + (z - max at_ la) * r := by
    rw [show z - la = (max at_ la - la) + (z - max at_ la) by omega, Int.mul_add, Int.mul_comm r (z - max at_ la)]
  have hW : elW b r la lv at_ s = max 0 (s * 1048576 - min (b * 1048576) (lv + r * (max at_ la - la))) := rfl
  rw [hW, e2]
  constructor
  · intro q
    have h0 : 0 ≤ z - max at_ la := by
      rcases Int.lt_or_le (z - max at_ la) 0 with c | c
      · have := Int.mul_le_mul_of_nonneg_right (show z - max at_ la ≤ -1 by omega) (show 0 ≤ r by omega)
        omega
      · exact c
    omega
  · rintro ⟨q1, q2, q3⟩
    have := Int.mul_nonneg (show 0 ≤ z - max at_ la by omega) (show 0 ≤ r by omega)
    omega
def shT (b r : Int) (l : List (Int × Int)) (k : Nat) : Int := (shN b r l (k + 1)).1
theorem shN_1 (b r : Int) (l : List (Int × Int)) (k : Nat) : (shN b r l (k + 1)).1 = shT b r l k := rfl
/-- The level behind k + 1 frames. -/
theorem shLV {b r : Int} {l : List (Int × Int)} (hb : bkE b r = 0) (ht : trE l = 0) (hf : fitB b l = true) : ∀ k, k < l.length → (∀ j, j < k + 1 → shT b r l j ≤ 1099511627776) → ∀ c : Int, c ≤ (shN b r l (k + 1)).2 ↔ ∀ i, i ≤ k → c ≤ b * 1048576 + r * (shT b r l k - shT b r l i) - 1048576 * (sumN l (k + 1) - sumN l i)
  | 0, hk, hT, c => by
    have t := tr_all ht 0 hk
    have kb := bkE_ok hb
    have s0 := shN_ok hb ht hf 0 (by omega) (fun j hj => by omega)
    have e0 := el_bd (at_ := (pr l 0).1) (s := (pr l 0).2) s0 (by omega) ⟨by omega, fitB_get hf hk⟩
    have m := Int.mul_nonneg (show 0 ≤ r by omega) (show 0 ≤ elT b r (shN b r l 0).1 (shN b r l 0).2 (pr l 0).1 (pr l 0).2 - (shN b r l 0).1 by omega)
    have e : (shN b r l (0 + 1)).2 = min (b * 1048576) ((shN b r l 0).2 + r * (elT b r (shN b r l 0).1 (shN b r l 0).2 (pr l 0).1 (pr l 0).2 - (shN b r l 0).1)) - (pr l 0).2 * 1048576 := rfl
    have e1 : (shN b r l 0).2 = b * 1048576 := rfl
    rw [e]
    constructor
    · intro hc i hi
      obtain rfl : i = 0 := by omega
      rw [Int.sub_self, Int.mul_zero]
      simp only [sumN]
      omega
    · intro H
      have := H 0 (by omega)
      rw [Int.sub_self, Int.mul_zero] at this
      simp only [sumN] at this
      omega
  | k + 1, hk, hT, c => by
    have ih := shLV hb ht hf k (by omega) (fun j hj => hT j (by omega)) (c + (pr l (k + 1)).2 * 1048576 - r * (shT b r l (k + 1) - shT b r l k))
    have e : (shN b r l (k + 1 + 1)).2 = min (b * 1048576) ((shN b r l (k + 1)).2 + r * (shT b r l (k + 1) - shT b r l k)) - (pr l (k + 1)).2 * 1048576 := rfl
    have e1 : c ≤ (shN b r l (k + 1 + 1)).2 ↔ c + (pr l (k + 1)).2 * 1048576 ≤ b * 1048576 ∧ c + (pr l (k + 1)).2 * 1048576 - r * (shT b r l (k + 1) - shT b r l k) ≤ (shN b r l (k + 1)).2 := by rw [e]; omega
    have es : sumN l (k + 1 + 1) = sumN l (k + 1) + (pr l (k + 1)).2 := rfl
    rw [e1, ih, es]
    constructor
    · rintro ⟨h1, h2⟩ i hi
      by_cases q : i = k + 1
      · subst q
        rw [Int.sub_self, Int.mul_zero]
        omega
      · have h3 := h2 i (by omega)
        have e3 : r * (shT b r l (k + 1) - shT b r l i) = r * (shT b r l (k + 1) - shT b r l k) + r * (shT b r l k - shT b r l i) := by rw [← Int.mul_add]; congr 1; omega
        omega
    · intro H
      refine ⟨?_, fun i hi => ?_⟩
      · have := H (k + 1) (by omega)
        rw [Int.sub_self, Int.mul_zero] at this
        omega
      · have h3 := H i (by omega)
        have e3 : r * (shT b r l (k + 1) - shT b r l i) = r * (shT b r l (k + 1) - shT b r l k) + r * (shT b r l k - shT b r l i) := by rw [← Int.mul_add]; congr 1; omega
        omega
theorem shT_up {b r : Int} {l : List (Int × Int)} (hb : bkE b r = 0) (ht : trE l = 0) (hf : fitB b l = true) {k : Nat} (hk : k < l.length) (hT : ∀ j, j < k → shT b r l j ≤ 1099511627776) : (pr l k).1 ≤ shT b r l k ∧ (shN b r l k).1 ≤ shT b r l k ∧ 0 ≤ shT b r l k := by
  have s0 := shN_ok hb ht hf k (by omega) hT
  have t := tr_all ht k hk
  have e := el_bd (at_ := (pr l k).1) (s := (pr l k).2) s0 (by omega) ⟨by omega, fitB_get hf hk⟩
  have q : shT b r l k = elT b r (shN b r l k).1 (shN b r l k).2 (pr l k).1 (pr l k).2 := rfl
  rw [q]
  omega
theorem shT_mono {b r : Int} {l : List (Int × Int)} (hb : bkE b r = 0) (ht : trE l = 0) (hf : fitB b l = true) : ∀ {n : Nat}, n < l.length → (∀ j, j < n → shT b r l j ≤ 1099511627776) → ∀ i, i ≤ n → shT b r l i ≤ shT b r l n
  | 0, _, _, i, hi => by
    obtain rfl : i = 0 := by omega
    exact Int.le_refl _
  | n + 1, hn, hT, i, hi => by
    by_cases e : i = n + 1
    · subst e; exact Int.le_refl _
    · have h1 := shT_mono hb ht hf (n := n) (by omega) (fun j hj => hT j (by omega)) i (by omega)
      have h2 := (shT_up hb ht hf hn hT).2.1
      have h3 : (shN b r l (n + 1)).1 = shT b r l n := rfl
      omega
/-- The formula for all pairs of frames. -/
theorem shT_le {b r : Int} {l : List (Int × Int)} (hb : bkE b r = 0) (ht : trE l = 0) (hf : fitB b l = true) {n : Nat} (hn : n < l.length) (hT : ∀ j, j < n → shT b r l j ≤ 1099511627776) (z : Int) :
    shT b r l n ≤ z ↔ (pr l n).1 ≤ z ∧ (∀ i, i < n → shT b r l i ≤ z) ∧ ∀ i, i < n → (sumN l (n + 1) - sumN l i - b) * 1048576 ≤ r * (z - shT b r l i) := by
  have s0 := shN_ok hb ht hf n (by omega) hT
  have t := tr_all ht n hn
  have kb := bkE_ok hb
  have fz := fitB_get hf hn
  have e := elT_le (at_ := (pr l n).1) (s := (pr l n).2) (z := z) s0 ⟨by omega, fz⟩
  have q : shT b r l n = elT b r (shN b r l n).1 (shN b r l n).2 (pr l n).1 (pr l n).2 := rfl
  rw [q, e]
  cases n with
  | zero =>
    have e1 : (shN b r l 0).1 = 0 := rfl
    have e2 : (shN b r l 0).2 = b * 1048576 := rfl
    rw [e1, e2]
    constructor
    · rintro ⟨h1, h2, h3⟩
      exact ⟨h1, fun i hi => by omega, fun i hi => by omega⟩
    · rintro ⟨h1, _, _⟩
      have := Int.mul_nonneg (show 0 ≤ r by omega) (show 0 ≤ z - 0 by omega)
      omega
  | succ n =>
    have e1 : (shN b r l (n + 1)).1 = shT b r l n := rfl
    have lv := shLV hb ht hf n (by omega) hT ((pr l (n + 1)).2 * 1048576 - r * (z - shT b r l n))
    have es : sumN l (n + 1 + 1) = sumN l (n + 1) + (pr l (n + 1)).2 := rfl
    rw [e1, es]
    have key : (pr l (n + 1)).2 * 1048576 ≤ (shN b r l (n + 1)).2 + r * (z - shT b r l n) ↔ ∀ i, i < n + 1 → (sumN l (n + 1) + (pr l (n + 1)).2 - sumN l i - b) * 1048576 ≤ r * (z - shT b r l i) := by
      rw [show (pr l (n + 1)).2 * 1048576 ≤ (shN b r l (n + 1)).2 + r * (z - shT b r l n) ↔ (pr l (n + 1)).2 * 1048576 - r * (z - shT b r l n) ≤ (shN b r l (n + 1)).2 by omega, lv]
      have e3 : ∀ i, r * (z - shT b r l i) = r * (z - shT b r l n) + r * (shT b r l n - shT b r l i) := fun i => by rw [← Int.mul_add]; congr 1; omega
      exact ⟨fun H i hi => by have := H i (by omega); have := e3 i; omega, fun H i hi => by have := H i (by omega); have := e3 i; omega⟩
    rw [key]
    have mo := shT_mono hb ht hf (n := n) (by omega) (fun j hj => hT j (by omega))
    exact ⟨fun h => ⟨h.1, fun i hi => by have := mo i (by omega); omega, h.2.2⟩, fun h => ⟨h.1, h.2.1 n (by omega), h.2.2⟩⟩
/-- The reference's formula. -/
def rfT (b r : Int) (l : List (Int × Int)) (n : Nat) : Nat → Int
  | 0 => (pr l n).1
  | m + 1 => if b < sumN l (n + 1) - sumN l (n - (m + 1)) then max (max (rfT b r l n m) (shT b r l (n - (m + 1)))) (shT b r l (n - (m + 1)) + cq ((sumN l (n + 1) - sumN l (n - (m + 1)) - b) * 1048576) r) else max (rfT b r l n m) (shT b r l (n - (m + 1)))
theorem rfT_le {b r : Int} {l : List (Int × Int)} {n : Nat} (z : Int) : ∀ m, rfT b r l n m ≤ z ↔ (pr l n).1 ≤ z ∧ ∀ q, q < m → shT b r l (n - (q + 1)) ≤ z ∧ (b < sumN l (n + 1) - sumN l (n - (q + 1)) → shT b r l (n - (q + 1)) + cq ((sumN l (n + 1) - sumN l (n - (q + 1)) - b) * 1048576) r ≤ z)
  | 0 => ⟨fun h => ⟨h, fun q hq => by omega⟩, fun h => h.1⟩
  | m + 1 => by
    have ih := rfT_le (b := b) (r := r) (l := l) (n := n) z m
    have e : rfT b r l n (m + 1) ≤ z ↔ rfT b r l n m ≤ z ∧ shT b r l (n - (m + 1)) ≤ z ∧ (b < sumN l (n + 1) - sumN l (n - (m + 1)) → shT b r l (n - (m + 1)) + cq ((sumN l (n + 1) - sumN l (n - (m + 1)) - b) * 1048576) r ≤ z) := by
      simp only [rfT]
      split
      · rename_i c; exact ⟨fun h => ⟨by omega, by omega, fun _ => by omega⟩, fun h => by have := h.2.2 c; omega⟩
      · rename_i c; exact ⟨fun h => ⟨by omega, by omega, fun q => absurd q c⟩, fun h => by omega⟩
    rw [e, ih]
    constructor
    · rintro ⟨⟨h0, h1⟩, h2⟩
      refine ⟨h0, fun q hq => ?_⟩
      by_cases e2 : q = m
      · subst e2; exact h2
      · exact h1 q (by omega)
    · rintro ⟨h0, h1⟩
      exact ⟨⟨h0, fun q hq => h1 q (by omega)⟩, h1 m (by omega)⟩
theorem rfT_end {b r : Int} {l : List (Int × Int)} (hb : bkE b r = 0) (ht : trE l = 0) (hf : fitB b l = true) {n : Nat} (hn : n < l.length) (hT : ∀ j, j < n → shT b r l j ≤ 1099511627776) : rfT b r l n n = shT b r l n := eq_of_le_iff fun z => by
  have kb := bkE_ok hb
  rw [rfT_le, shT_le hb ht hf hn hT]
  have key : ∀ i, i < n → shT b r l i ≤ z → ((sumN l (n + 1) - sumN l i - b) * 1048576 ≤ r * (z - shT b r l i) ↔ (b < sumN l (n + 1) - sumN l i → shT b r l i + cq ((sumN l (n + 1) - sumN l i - b) * 1048576) r ≤ z)) := fun i hi hz => by
    have e : shT b r l i + cq ((sumN l (n + 1) - sumN l i - b) * 1048576) r ≤ z ↔ (sumN l (n + 1) - sumN l i - b) * 1048576 ≤ (z - shT b r l i) * r := by
      rw [← cq_iff (show 1 ≤ r by omega)]; omega
    rw [e, Int.mul_comm r]
    have m := Int.mul_nonneg (show 0 ≤ z - shT b r l i by omega) (show 0 ≤ r by omega)
    exact ⟨fun h _ => h, fun h => by
      by_cases c : b < sumN l (n + 1) - sumN l i
      · exact h c
      · omega⟩
  constructor
  · rintro ⟨h0, h1⟩
    have g : ∀ i, i < n → shT b r l i ≤ z ∧ (b < sumN l (n + 1) - sumN l i → shT b r l i + cq ((sumN l (n + 1) - sumN l i - b) * 1048576) r ≤ z) := fun i hi => by
      have := h1 (n - (i + 1)) (by omega)
      rw [show n - (n - (i + 1) + 1) = i by omega] at this
      exact this
    exact ⟨h0, fun i hi => (g i hi).1, fun i hi => (key i hi (g i hi).1).2 (g i hi).2⟩
  · rintro ⟨h0, h1, h2⟩
    exact ⟨h0, fun q hq => ⟨h1 _ (by omega), (key _ (by omega) (h1 _ (by omega))).1 (h2 _ (by omega))⟩⟩
/-- Later arrivals make no frame eligible earlier. -/
theorem shT_later {b r : Int} {l m : List (Int × Int)} (hb : bkE b r = 0) (ht : trE l = 0) (hf : fitB b l = true) (ht2 : trE m = 0) (hf2 : fitB b m = true) (hl : m.length = l.length) (hs : ∀ k, k < l.length → (pr m k).2 = (pr l k).2) (ha : ∀ k, k < l.length → (pr l k).1 ≤ (pr m k).1) (hT : ∀ j, j < l.length → shT b r l j ≤ 1099511627776) (hT2 : ∀ j, j < l.length → shT b r m j ≤ 1099511627776) : ∀ n, n < l.length → shT b r l n ≤ shT b r m n := fun n => by
  induction n using Nat.strongRecOn with
  | ind n ih =>
    intro hn
    have kb := bkE_ok hb
    have es : ∀ k, k ≤ l.length → sumN m k = sumN l k := sumN_same fun i hi => hs i hi
    have q := (shT_le hb ht2 hf2 (n := n) (by omega) (fun j hj => hT2 j (by omega)) (shT b r m n)).1 (Int.le_refl _)
    rw [shT_le hb ht hf hn (fun j hj => hT j (by omega))]
    refine ⟨by have := ha n hn; omega, fun i hi => ?_, fun i hi => ?_⟩
    · have := ih i hi (by omega); have := q.2.1 i hi; omega
    · have h1 := q.2.2 i hi
      rw [es _ (by omega), es _ (by omega)] at h1
      have h2 := ih i hi (by omega)
      have h3 := Int.mul_le_mul_of_nonneg_left (show shT b r m n - shT b r m i ≤ shT b r m n - shT b r l i by omega) (show 0 ≤ r by omega)
      omega
/-- A bound of the times. -/
theorem shT_cap {b r M : Int} {l : List (Int × Int)} (hb : bkE b r = 0) (ht : trE l = 0) (hf : fitB b l = true) (hr : 1024 ≤ r) (h0 : 0 ≤ M) (hM : ∀ k, k < l.length → (pr l k).1 ≤ M) (hC : M + 1024 * sumN l l.length ≤ 1099511627776) : ∀ n, n < l.length → shT b r l n ≤ M + 1024 * sumN l (n + 1) := fun n => by
  induction n using Nat.strongRecOn with
  | ind n ih =>
    intro hn
    have sm : ∀ j, j < l.length → sumN l (j + 1) ≤ sumN l l.length := fun j hj => sumN_mono ht (by omega) (by omega)
    have hT : ∀ j, j < n → shT b r l j ≤ 1099511627776 := fun j hj => by have := ih j hj (by omega); have := sm j (by omega); omega
    have s0 := shN_ok hb ht hf n (by omega) hT
    have k := sk_bd s0
    have t := tr_all ht n hn
    have hm := hM n hn
    have es : sumN l (n + 1) = sumN l n + (pr l n).2 := rfl
    have sn := sumN_bd ht n (by omega)
    have q : shT b r l n = elT b r (shN b r l n).1 (shN b r l n).2 (pr l n).1 (pr l n).2 := rfl
    have hla : (shN b r l n).1 ≤ M + 1024 * sumN l n := by
      cases n with
      | zero => have : (shN b r l 0).1 = 0 := rfl; simp only [sumN]; omega
      | succ n => exact ih n (by omega) (by omega)
    rw [q, elT_le s0 ⟨by omega, fitB_get hf hn⟩]
    have m := Int.mul_le_mul (show 1024 ≤ r by omega) (show 1024 * (pr l n).2 ≤ M + 1024 * sumN l (n + 1) - (shN b r l n).1 by omega) (by omega) (by omega)
    exact ⟨by omega, by omega, by omega⟩
/-- Shaping is for free. -/
theorem shT_free {b r D : Int} {l m : List (Int × Int)} (hc : cfB b r l = true) (ht2 : trE m = 0) (hl : m.length = l.length) (hs : ∀ k, k < l.length → (pr m k).2 = (pr l k).2) (hD : 0 ≤ D) (ha : ∀ k, k < l.length → (pr m k).1 ≤ (pr l k).1 + D) (hC : ∀ k, k < l.length → (pr l k).1 + D ≤ 1099511627776) :
    fitB b m = true ∧ ∀ n, n < l.length → shT b r m n ≤ (pr l n).1 + D := by
  have c := (cf_iff.1 hc).1
  have ht := ckE_tr c
  have hb : bkE b r = 0 := by have := ckE_bk c; unfold bkE; rw [if_pos this]
  have kb := bkE_ok hb
  have ci := (cf_int c).1 hc
  have hf : fitB b m = true := fitB_yes fun j hj => by
    have q := ci j j (Nat.le_refl _) (by omega)
    unfold okIJ at q
    rw [Int.sub_self, Int.mul_zero] at q
    have es : sumN l (j + 1) = sumN l j + (pr l j).2 := rfl
    rw [hs j (by omega)]
    omega
  refine ⟨hf, fun n => ?_⟩
  induction n using Nat.strongRecOn with
  | ind n ih =>
    intro hn
    have es : ∀ k, k ≤ l.length → sumN m k = sumN l k := sumN_same fun i hi => hs i hi
    rw [shT_le hb ht2 hf (n := n) (by omega) (fun j hj => by have := ih j hj (by omega); have := hC j (by omega); omega)]
    refine ⟨ha n hn, fun i hi => ?_, fun i hi => ?_⟩
    · have := ih i hi (by omega); have := at_mono ht (i := i) (k := n) (by omega) hn; omega
    · rw [es _ (by omega), es _ (by omega)]
      have q := ci i n (by omega) hn
      unfold okIJ at q
      have h2 := ih i hi (by omega)
      have h3 := Int.mul_le_mul_of_nonneg_left (show (pr l n).1 - (pr l i).1 ≤ (pr l n).1 + D - shT b r m i by omega) (show 0 ≤ r by omega)
      omega
/-- The frames at their eligible times. -/
def shZ (b r : Int) (l : List (Int × Int)) : Nat → List (Int × Int)
  | 0 => l
  | k + 1 => (shZ b r l k).set k (shT b r l k, (pr (shZ b r l k) k).2)
theorem shZ_len (b r : Int) (l : List (Int × Int)) : ∀ k, (shZ b r l k).length = l.length
  | 0 => rfl
  | k + 1 => by show ((shZ b r l k).set _ _).length = _; rw [List.length_set, shZ_len b r l k]
theorem shZ_pr {b r : Int} {l : List (Int × Int)} : ∀ {k : Nat}, k ≤ l.length → ∀ i, i < l.length → pr (shZ b r l k) i = if i < k then (shT b r l i, (pr l i).2) else pr l i
  | 0, _, i, _ => by rw [if_neg (by omega)]; rfl
  | k + 1, hk, i, hi => by
    have ih := shZ_pr (b := b) (r := r) (l := l) (k := k) (by omega)
    show pr ((shZ b r l k).set k _) i = _
    rw [pr_set (by rw [shZ_len]; omega)]
    by_cases e : i = k
    · subst e
      rw [if_pos rfl, if_pos (by omega), ih i hi, if_neg (by omega)]
    · rw [if_neg e, ih i hi]
      by_cases q : i < k
      · rw [if_pos q, if_pos (by omega)]
      · rw [if_neg q, if_neg (by omega)]
/-- What is known of a run that ends well. -/
structure ShOk (b r : Int) (l : List (Int × Int)) : Prop where
  bk : bkE b r = 0
  tr : trE l = 0
  fit : fitB b l = true
  T : ∀ j, j < l.length → shT b r l j ≤ 1099511627776
theorem ShOk.e {b r : Int} {l : List (Int × Int)} (h : ShOk b r l) : srE b r l = 0 := sr_0 h.bk h.tr h.fit (allT_iff.2 h.T)
theorem ShOk.of {b r : Int} {l : List (Int × Int)} (h : srE b r l = 0) : ShOk b r l := by
  have k := sr_ok h
  exact ⟨k.1, k.2.1, k.2.2.1, allT_iff.1 k.2.2.2⟩
/-- A list whose first frames are the shaped ones: its levels. -/
theorem shZ_lv {b r : Int} {l m : List (Int × Int)} {n : Nat} (hm : ∀ i, i < n → pr m i = (shT b r l i, (pr l i).2)) : ∀ k, k ≤ n → laN m k = (shN b r l k).1 ∧ lvN b r m k = (shN b r l k).2
  | 0, _ => ⟨rfl, rfl⟩
  | k + 1, hk => by
    have ih := shZ_lv hm k (by omega)
    refine ⟨by simp only [laN]; rw [hm k (by omega)]; rfl, ?_⟩
    simp only [lvN]
    rw [ih.1, ih.2, hm k (by omega)]
    rfl
theorem ShOk.step {b r : Int} {l : List (Int × Int)} (h : ShOk b r l) {k : Nat} (hk : k < l.length) : skE b r (shN b r l k).1 (shN b r l k).2 = 0 ∧ (shN b r l k).1 ≤ shT b r l k ∧ 0 ≤ (shN b r l (k + 1)).2 ∧ (pr l k).1 ≤ shT b r l k := by
  have s0 := shN_ok h.bk h.tr h.fit k (by omega) (fun j hj => h.T j (by omega))
  have t := tr_all h.tr k hk
  have e := el_bd (at_ := (pr l k).1) (s := (pr l k).2) s0 (by omega) ⟨by omega, fitB_get h.fit hk⟩
  exact ⟨s0, e.2.2.2.1, e.2.2.2.2.2.1, e.2.2.1⟩
theorem ShOk.valid {b r : Int} {l m : List (Int × Int)} (h : ShOk b r l) (hl : m.length ≤ l.length) (hm : ∀ i, i < m.length → pr m i = (shT b r l i, (pr l i).2)) : trE m = 0 := by
  have ln := (trE_ok h.tr).1
  refine trE_of (by omega) fun i hi => ?_
  have t := tr_all h.tr i (by omega)
  have s := h.step (k := i) (by omega)
  have q := h.T i (by omega)
  rw [(shZ_lv hm i (by omega)).1, hm i hi]
  exact ⟨s.2.1, q, t.2.2.1, t.2.2.2.1⟩
theorem ShOk.cf {b r : Int} {l m : List (Int × Int)} (h : ShOk b r l) (hl : m.length ≤ l.length) (hm : ∀ i, i < m.length → pr m i = (shT b r l i, (pr l i).2)) : cfB b r m = true ∧ ckE b r m = 0 := by
  have ck : ckE b r m = 0 := ckE_zero h.bk (h.valid hl hm)
  refine ⟨cf_iff.2 ⟨ck, fun j hj => ?_⟩, ck⟩
  rw [(shZ_lv hm (j + 1) (by omega)).2]
  exact (h.step (k := j) (by omega)).2.2.1
/-- One tick earlier. -/
theorem ShOk.early {b r : Int} {l m : List (Int × Int)} (h : ShOk b r l) {n : Nat} (hn : n < l.length) (hl : m.length = n + 1) (hm : ∀ i, i < n → pr m i = (shT b r l i, (pr l i).2)) (hx : pr m n = (shT b r l n - 1, (pr l n).2)) (h1 : ¬ shT b r l n = (pr l n).1) (h2 : 0 < n → ¬ shT b r l n = shT b r l (n - 1)) : cfB b r m = false := by
  have s := h.step hn
  have lv := shZ_lv hm n (Nat.le_refl _)
  have t := tr_all h.tr n hn
  have e := elT_le (at_ := (pr l n).1) (s := (pr l n).2) (z := shT b r l n - 1) s.1 ⟨by omega, fitB_get h.fit hn⟩
  have q : shT b r l n = elT b r (shN b r l n).1 (shN b r l n).2 (pr l n).1 (pr l n).2 := rfl
  have hla : (shN b r l n).1 ≤ shT b r l n - 1 := by
    cases n with
    | zero => have : (shN b r l 0).1 = 0 := rfl; omega
    | succ n => have := h2 (by omega); have e2 : (shN b r l (n + 1)).1 = shT b r l n := rfl; simp at this; omega
  refine cf_no (j := n) (by omega) ?_
  simp only [lvN]
  rw [lv.1, lv.2, hx]
  simp only
  rw [← q] at e
  have nb : ¬ ((pr l n).2 * 1048576 ≤ (shN b r l n).2 + r * (shT b r l n - 1 - (shN b r l n).1)) := fun z => by
    have := e.2 ⟨by omega, hla, z⟩
    omega
  omega
/-- A shaped trace does not wait. -/
theorem ShOk.again {b r : Int} {l m : List (Int × Int)} (h : ShOk b r l) (hl : m.length = l.length) (hm : ∀ i, i < l.length → pr m i = (shT b r l i, (pr l i).2)) : srE b r m = 0 ∧ shUp b r m l.length = shUp b r l l.length := by
  have hv := h.valid (m := m) (by omega) (fun i hi => hm i (by omega))
  have hf : fitB b m = true := fitB_yes fun j hj => by rw [hm j (by omega)]; exact fitB_get h.fit (by omega)
  have key : ∀ k, k ≤ l.length → shN b r m k = shN b r l k := fun k => by
    induction k with
    | zero => intro _; rfl
    | succ k ih =>
      intro hk
      have ih := ih (by omega)
      have s := h.step (k := k) (by omega)
      have t := tr_all h.tr k (by omega)
      have fz := fitB_get h.fit (show k < l.length by omega)
      have q : shT b r l k = elT b r (shN b r l k).1 (shN b r l k).2 (pr l k).1 (pr l k).2 := rfl
      have e1 := (elT_le (at_ := (pr l k).1) (s := (pr l k).2) (z := shT b r l k) s.1 ⟨by omega, fz⟩).1 (Int.le_refl _)
      have e2 := (elT_le (at_ := shT b r l k) (s := (pr l k).2) (z := shT b r l k) s.1 ⟨by omega, fz⟩).2 ⟨Int.le_refl _, e1.2⟩
      have e3 := (el_bd (at_ := shT b r l k) (s := (pr l k).2) s.1 ⟨by omega, h.T k (by omega)⟩ ⟨by omega, fz⟩).2.2.1
      have e4 : elT b r (shN b r l k).1 (shN b r l k).2 (shT b r l k) (pr l k).2 = shT b r l k := by omega
      have e5 : elL b r (shN b r l k).1 (shN b r l k).2 (shT b r l k) (pr l k).2 = (shN b r l (k + 1)).2 := by
        show up b r (shN b r l k).2 (elT b r (shN b r l k).1 (shN b r l k).2 (shT b r l k) (pr l k).2 - (shN b r l k).1) - (pr l k).2 * 1048576 = _
        rw [e4]
        rfl
      show (elT b r (shN b r m k).1 (shN b r m k).2 (pr m k).1 (pr m k).2, elL b r (shN b r m k).1 (shN b r m k).2 (pr m k).1 (pr m k).2) = _
      rw [ih, hm k (by omega)]
      show (elT b r (shN b r l k).1 (shN b r l k).2 (shT b r l k) (pr l k).2, elL b r (shN b r l k).1 (shN b r l k).2 (shT b r l k) (pr l k).2) = _
      rw [e4, e5]
      rfl
  refine ⟨sr_0 h.bk hv hf (allT_iff.2 fun j hj => ?_), ?_⟩
  · rw [key (j + 1) (by omega)]; exact h.T j (by omega)
  · unfold shUp
    exact List.map_congr_left fun j hj => by rw [key (j + 1) (by have := List.mem_range.1 hj; omega)]
theorem rf_yes {b r : Int} {l : List (Int × Int)} {m i j : Nat} (h : i = j + 1) (hm : i ≤ m) (c : b < sumN l (m + 1) - sumN l (i - 1)) : rfT b r l m (m - j) = max (max (rfT b r l m (m - i)) (shT b r l (i - 1))) (shT b r l (i - 1) + cq ((sumN l (m + 1) - sumN l (i - 1) - b) * 1048576) r) := by
  rw [show m - j = (m - i) + 1 by omega]
  simp only [rfT]
  rw [show m - (m - i + 1) = i - 1 by omega, if_pos c]
theorem rf_no {b r : Int} {l : List (Int × Int)} {m i j : Nat} (h : i = j + 1) (hm : i ≤ m) (c : ¬ b < sumN l (m + 1) - sumN l (i - 1)) : rfT b r l m (m - j) = max (rfT b r l m (m - i)) (shT b r l (i - 1)) := by
  rw [show m - j = (m - i) + 1 by omega]
  simp only [rfT]
  rw [show m - (m - i + 1) = i - 1 by omega, if_neg c]
/-- A bucket with a burst that is at least every size. -/
def fbN (b : Int) (l : List (Int × Int)) : Nat → Int
  | 0 => b
  | k + 1 => max (fbN b l k) (pr l k).2
theorem fbN_bd {b M : Int} {l : List (Int × Int)} (hb : 1 ≤ b ∧ b ≤ M) (h : ∀ k, k < l.length → (pr l k).2 ≤ M) : ∀ k, k ≤ l.length → 1 ≤ fbN b l k ∧ fbN b l k ≤ M
  | 0, _ => hb
  | k + 1, hk => by have := fbN_bd hb h k (by omega); have := h k (by omega); simp only [fbN]; omega
theorem fbN_le {b : Int} {l : List (Int × Int)} : ∀ k, ∀ j, j < k → (pr l j).2 ≤ fbN b l k
  | k + 1, j, hj => by
    by_cases e : j = k
    · subst e; simp only [fbN]; omega
    · have := fbN_le (b := b) (l := l) k j (by omega); simp only [fbN]; omega
theorem late_set {l mm : List (Int × Int)} {wt : List Int} {D x : Int} {k : Nat} (hmm : mm = oL l wt D k) (hx : x = max ((pr l k).1 + (if k < wt.length then nt wt k % (D + 1) else 0)) (oAt l wt D k)) : mm.set k (x, (pr mm k).2) = oL l wt D (k + 1) := by
  have e : x = oAt l wt D (k + 1) := by rw [hx]; show max _ _ = max _ _; omega
  rw [e, hmm]
  rfl
theorem late_set2 {l mm : List (Int × Int)} {wt : List Int} {D x u : Int} {k : Nat} (hmm : mm = oL l wt D k) (hk : k < mm.length) (hx : x = max ((pr l k).1 + (if k < wt.length then nt wt k % (D + 1) else 0)) (oAt l wt D k)) : (mm.set k (u, (pr mm k).2)).set k (x, (pr (mm.set k (u, (pr mm k).2)) k).2) = oL l wt D (k + 1) := by
  rw [List.set_set, pr_set hk, if_pos rfl]
  exact late_set hmm hx
theorem ro_sub_own {w : World} {B e size n : Nat} {A : Option Addr} {c : Nat} {l m : List (Int × Int)} {j : Nat} (h : w.ownsRow B e size (.slice A n c) n (flat2 l)) (hm : m = l.take j) : Ro w A (flat2 m) := by
  have h1 := ro_of_own h
  rw [hm]
  exact fun i u hu => h1 i u (flat2_sub _ _ i u hu)
end Go.Proofs.Ytaekcgapbkmepaa
