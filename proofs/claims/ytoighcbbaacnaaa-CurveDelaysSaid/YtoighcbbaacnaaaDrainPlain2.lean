/-
  Curves in plain words: the reference's latest departures, and its clearing time.
-/
import Derived.Test.YtoighcbbaacnaaaDrainPlain
namespace Go.Proofs.Ytoighcbbaacnaaa
set_option linter.unusedVariables false
theorem cq_iff {n d B : Int} (hd : 1 ≤ d) : cq n d ≤ B ↔ n ≤ B * d := by
  refine ⟨fun h => ?_, cq_le hd⟩
  have g := cq_ge (n := n) hd
  have := Int.mul_le_mul_of_nonneg_right h (show 0 ≤ d by omega)
  omega
theorem eq_of_le_iff {x y : Int} (h : ∀ z, x ≤ z ↔ y ≤ z) : x = y := Int.le_antisymm ((h y).2 (Int.le_refl _)) ((h x).1 (Int.le_refl _))
theorem cq_shift {x n d : Int} (hd : 1 ≤ d) : cq (x * d + n) d = x + cq n d := eq_of_le_iff fun z => by
  rw [cq_iff hd, show x + cq n d ≤ z ↔ cq n d ≤ z - x by omega, cq_iff hd, Int.sub_mul]
  omega
/-- The end of the work, from all frames on. -/
theorem enN_le {r : Int} {l : List (Int × Int)} (hr : 1 ≤ r) (h : trE l = 0) : ∀ j, j < l.length → ∀ z : Int, enN r l (j + 1) ≤ z ↔ ∀ i, i ≤ j → (pr l i).1 * r + (sumN l (j + 1) - sumN l i) * 1048576 ≤ z
  | 0, hj, z => by
    have t := tr_all h 0 hj
    have m := Int.mul_nonneg (show 0 ≤ (pr l 0).1 by omega) (show 0 ≤ r by omega)
    simp only [enN]
    constructor
    · intro hz i hi
      obtain rfl : i = 0 := by omega
      simp only [sumN]
      omega
    · intro H
      have := H 0 (by omega)
      simp only [sumN] at this
      omega
  | j + 1, hj, z => by
    have ih := enN_le hr h j (by omega) (z - (pr l (j + 1)).2 * 1048576)
    have e : enN r l (j + 1 + 1) ≤ z ↔ enN r l (j + 1) ≤ z - (pr l (j + 1)).2 * 1048576 ∧ (pr l (j + 1)).1 * r + (pr l (j + 1)).2 * 1048576 ≤ z := by
      rw [show enN r l (j + 1 + 1) = max (enN r l (j + 1)) ((pr l (j + 1)).1 * r) + (pr l (j + 1)).2 * 1048576 from rfl]
      omega
    have es : sumN l (j + 1 + 1) = sumN l (j + 1) + (pr l (j + 1)).2 := rfl
    rw [e, ih, es]
    constructor
    · rintro ⟨h1, h2⟩ i hi
      by_cases q : i = j + 1
      · subst q
        omega
      · have h3 := h1 i (by omega)
        omega
    · intro H
      refine ⟨fun i hi => ?_, ?_⟩
      · have h3 := H i (by omega)
        omega
      · have := H (j + 1) (by omega)
        omega
def rdL (r t : Int) (l : List (Int × Int)) (j : Nat) : Nat → Int
  | 0 => 0
  | n + 1 => max (rdL r t l j n) ((pr l (j - n)).1 + t + cq ((sumN l (j + 1) - sumN l (j - n)) * 1048576) r)
theorem rdL_le {r t : Int} {l : List (Int × Int)} {j : Nat} (z : Int) : ∀ n, rdL r t l j n ≤ z ↔ 0 ≤ z ∧ ∀ m, m < n → (pr l (j - m)).1 + t + cq ((sumN l (j + 1) - sumN l (j - m)) * 1048576) r ≤ z
  | 0 => ⟨fun h => ⟨h, fun m hm => by omega⟩, fun h => h.1⟩
  | n + 1 => by
    have ih := rdL_le (r := r) (t := t) (l := l) (j := j) z n
    have e : rdL r t l j (n + 1) ≤ z ↔ rdL r t l j n ≤ z ∧ (pr l (j - n)).1 + t + cq ((sumN l (j + 1) - sumN l (j - n)) * 1048576) r ≤ z := by
      rw [show rdL r t l j (n + 1) = max (rdL r t l j n) ((pr l (j - n)).1 + t + cq ((sumN l (j + 1) - sumN l (j - n)) * 1048576) r) from rfl]
      omega
    rw [e, ih]
    constructor
    · rintro ⟨⟨h0, h1⟩, h2⟩
      refine ⟨h0, fun m hm => ?_⟩
      by_cases q : m = n
      · subst q; exact h2
      · exact h1 m (by omega)
    · rintro ⟨h0, h1⟩
      exact ⟨⟨h0, fun m hm => h1 m (by omega)⟩, h1 n (by omega)⟩
theorem rdL_end {r t : Int} {l : List (Int × Int)} {j : Nat} (hr : 1 ≤ r) (ht : 0 ≤ t) (h : trE l = 0) (hj : j < l.length) : rdL r t l j (j + 1) = t + cq (enN r l (j + 1)) r := eq_of_le_iff fun z => by
  rw [rdL_le, show t + cq (enN r l (j + 1)) r ≤ z ↔ cq (enN r l (j + 1)) r ≤ z - t by omega, cq_iff hr, enN_le hr h j hj]
  have key : ∀ i, i ≤ j → ((pr l i).1 * r + (sumN l (j + 1) - sumN l i) * 1048576 ≤ (z - t) * r ↔ (pr l i).1 + t + cq ((sumN l (j + 1) - sumN l i) * 1048576) r ≤ z) := fun i hi => by
    rw [show (pr l i).1 + t + cq ((sumN l (j + 1) - sumN l i) * 1048576) r ≤ z ↔ cq ((sumN l (j + 1) - sumN l i) * 1048576) r ≤ z - t - (pr l i).1 by omega, cq_iff hr, Int.sub_mul (z - t)]
    omega
  constructor
  · rintro ⟨h0, h1⟩ i hi
    have := h1 (j - i) (by omega)
    rw [show j - (j - i) = i by omega] at this
    exact (key i hi).2 this
  · intro H
    have t0 := tr_all h j hj
    have h0 := (key j (Nat.le_refl _)).1 (H j (Nat.le_refl _))
    have c0 := cq_nn (n := (sumN l (j + 1) - sumN l j) * 1048576) hr (by rw [show sumN l (j + 1) = sumN l j + (pr l j).2 from rfl]; omega)
    exact ⟨by omega, fun m hm => (key (j - m) (by omega)).1 (H (j - m) (by omega))⟩
theorem rdL_bd {r t : Int} {l : List (Int × Int)} {j : Nat} (hr : 1 ≤ r) (ht : 0 ≤ t ∧ t ≤ 268435456) (h : trE l = 0) (hj : j < l.length) : ∀ n, n ≤ j + 1 → 0 ≤ rdL r t l j n ∧ rdL r t l j n ≤ 1000000000000000
  | 0, _ => by simp [rdL]
  | n + 1, hn => by
    have ih := rdL_bd hr ht h hj n (by omega)
    have t0 := tr_all h (j - n) (by omega)
    have s1 := sumN_bd h (j + 1) (by omega)
    have s2 := sumN_bd h (j - n) (by omega)
    have s3 := sumN_mono h (i := j - n) (k := j + 1) (by omega) (by omega)
    have ln := (trE_ok h).1
    have c := cq_in (n := (sumN l (j + 1) - sumN l (j - n)) * 1048576) (d := r) (B := 240000000000000) hr (by omega) (by omega)
    rw [show rdL r t l j (n + 1) = max (rdL r t l j n) ((pr l (j - n)).1 + t + cq ((sumN l (j + 1) - sumN l (j - n)) * 1048576) r) from rfl]
    omega
/-- The reference's clearing time. -/
def rcl (s : Int × Bool) : Int := if s.2 = true then s.1 else -1
theorem rcl_yes {s : Int × Bool} (h : s.2 = true) : rcl s = s.1 := by unfold rcl; rw [if_pos h]
theorem rcl_no {s : Int × Bool} (h : s.2 = false) : rcl s = -1 := by unfold rcl; rw [if_neg (by rw [h]; decide)]
theorem clS_found (s : Int × Bool) (x : Int) : (clS s x).2 = true := by
  unfold clS
  split
  · rename_i h; exact h.1
  · rfl
theorem clS_min {s : Int × Bool} {x : Int} (h : s.2 = true) : (clS s x).1 = min s.1 x := by
  unfold clS
  split
  · rename_i q; omega
  · rename_i q
    have : x < s.1 := Int.not_le.1 fun z => q ⟨h, by omega⟩
    show x = _
    omega
theorem dAll_slow {r : Int} {l : List (Int × Int)} : ∀ k, (∀ j, j < k → r < (pr l j).2) → dAll r l k = []
  | 0, _ => rfl
  | k + 1, h => by rw [dAll_skip (h k (by omega)), dAll_slow k fun j hj => h j (by omega)]
theorem dAll_fast {r : Int} {l : List (Int × Int)} {j : Nat} (h : ¬ r < (pr l j).2) : ∀ k, j < k → dAll r l k ≠ []
  | k + 1, hk => by
    by_cases e : j = k
    · subst e; rw [dAll_take h]; simp
    · have ih := dAll_fast h k (by omega)
      by_cases q : r < (pr l k).2
      · rw [dAll_skip q]; exact ih
      · rw [dAll_take q]; simp
theorem cl_none {r : Int} {l : List (Int × Int)} (h : ∀ j, j < l.length → r < (pr l j).2) : (clF (dAll r l l.length)).2 = false := by rw [dAll_slow _ h]; rfl
theorem cl_some {r : Int} {l : List (Int × Int)} {j : Nat} (hj : j < l.length) (h : ¬ r < (pr l j).2) : (clF (dAll r l l.length)).2 = true := (clF_found _).2 (dAll_fast h _ hj)
/-- Behind the first part of a round, and behind k crossings. -/
def clK (r : Int) (l : List (Int × Int)) (i : Nat) (k : Nat) : Int × Bool := clF (dAll r l i ++ cq ((pr l i).1 * 1048576) r :: dIn r (pr l i) l k)
theorem clK_zero (r : Int) (l : List (Int × Int)) (i : Nat) : clK r l i 0 = clS (clF (dAll r l i)) (cq ((pr l i).1 * 1048576) r) := by unfold clK; exact clF_snoc _ _
theorem clK_skip {r : Int} {l : List (Int × Int)} {i k : Nat} (h : (pr l k).2 ≤ r ∨ (pr l i).1 ≤ (pr l k).1) : clK r l i (k + 1) = clK r l i k := by unfold clK; rw [dIn_skip h]
theorem clK_take {r : Int} {l : List (Int × Int)} {i k : Nat} (h : ¬ ((pr l k).2 ≤ r ∨ (pr l i).1 ≤ (pr l k).1)) : clK r l i (k + 1) = clS (clK r l i k) (cq (crs r (pr l k) (pr l i) * 1048576) (r * ((pr l k).2 - (pr l i).2))) := by
  unfold clK; rw [dIn_take h, ← clF_snoc, List.append_assoc]; rfl
theorem clK_found (r : Int) (l : List (Int × Int)) (i k : Nat) : (clK r l i k).2 = true := (clF_found _).2 (by simp)
theorem clK_end {r : Int} {l : List (Int × Int)} {i : Nat} (h : ¬ r < (pr l i).2) : clF (dAll r l (i + 1)) = clK r l i l.length := by unfold clK; rw [dAll_take h]
theorem clK_first {r x : Int} {l : List (Int × Int)} {i : Nat} (hx : x = rcl (clF (dAll r l i))) (h0 : ∀ y ∈ dAll r l i, 0 ≤ y) : (x < 0 ∨ cq ((pr l i).1 * 1048576) r < x → (clK r l i 0).1 = cq ((pr l i).1 * 1048576) r) ∧ (¬ (x < 0 ∨ cq ((pr l i).1 * 1048576) r < x) → (clK r l i 0).1 = x) := by
  rw [clK_zero]
  cases hf : (clF (dAll r l i)).2 with
  | false =>
    rw [rcl_no hf] at hx
    have e : (clS (clF (dAll r l i)) (cq ((pr l i).1 * 1048576) r)).1 = cq ((pr l i).1 * 1048576) r := by unfold clS; rw [if_neg (by rw [hf]; simp)]
    exact ⟨fun _ => e, fun q => absurd (.inl (by omega)) q⟩
  | true =>
    rw [rcl_yes hf] at hx
    have p : 0 ≤ (clF (dAll r l i)).1 := clF_in (P := fun y => 0 ≤ y) (Int.le_refl _) _ (0, false) (Int.le_refl _) h0
    rw [clS_min hf, ← hx]
    rw [← hx] at p
    exact ⟨fun q => by omega, fun q => by omega⟩
theorem clK_next {r x : Int} {l : List (Int × Int)} {i k : Nat} (hx : x = (clK r l i k).1) (h : ¬ ((pr l k).2 ≤ r ∨ (pr l i).1 ≤ (pr l k).1)) : min x (cq (crs r (pr l k) (pr l i) * 1048576) (r * ((pr l k).2 - (pr l i).2))) = (clK r l i (k + 1)).1 := by
  rw [clK_take h, clS_min (clK_found ..), hx]
end Go.Proofs.Ytoighcbbaacnaaa
