/-
  If the port is always available the frames, at their starts, conform to the bucket: plain words, no program.
-/
import Derived.Test.YtjepnlebmgkomaaCrRunPlain
import Derived.Test.YtjepnlebmgkomaaCfA
namespace Go.Proofs.Ytjepnlebmgkomaa
/-- The frames at their starts. -/
def sentK (l : List (Int × Int)) (S : List Int) (k : Nat) : List (Int × Int) := (List.range l.length).map fun i => (if i < k then nt S i else (pr l i).1, (pr l i).2)
theorem sentK_length (l : List (Int × Int)) (S : List Int) (k : Nat) : (sentK l S k).length = l.length := by simp [sentK]
theorem sentK_pr {l : List (Int × Int)} {S : List Int} {k i : Nat} (h : i < l.length) : pr (sentK l S k) i = (if i < k then nt S i else (pr l i).1, (pr l i).2) := by
  have : (sentK l S k)[i]? = some (if i < k then nt S i else (pr l i).1, (pr l i).2) := by simp [sentK, h]
  unfold pr at *
  rw [List.getD_eq_getElem?_getD, this]
  rfl
/-- The greatest size and one more, of the first k frames. -/
def burstK (l : List (Int × Int)) : Nat → Int
  | 0 => 1
  | k + 1 => max (burstK l k) ((pr l k).2 + 1)
theorem burstK_ge (l : List (Int × Int)) : ∀ (k i : Nat), i < k → (pr l i).2 + 1 ≤ burstK l k
  | 0, i, h => by omega
  | k + 1, i, h => by
    simp only [burstK]
    by_cases e : i = k
    · subst e; omega
    · have := burstK_ge l k i (by omega); omega
theorem burstK_bd {l : List (Int × Int)} (h : ∀ k, k < l.length → 1 ≤ (pr l k).2 ∧ (pr l k).2 ≤ 1542) : ∀ k, k ≤ l.length → 1 ≤ burstK l k ∧ burstK l k ≤ 1543
  | 0, _ => by simp [burstK]
  | k + 1, hk => by
    have := burstK_bd h k (by omega)
    have := h k (by omega)
    simp only [burstK]
    omega
theorem start_le {r p a l at_ size : Int} (h1 : slopeB r p = true) (h2 : stateB a l = true) (h3 : timeB at_ = true) (h5 : 1 ≤ size) (h6 : size ≤ 1542) (hl : l ≤ 1048576) : startLevel r a l at_ 0 ≤ 1048576 := by
  obtain ⟨r1, r2, _⟩ := slopeB_iff.1 h1
  obtain ⟨f1, _, _, _, f5, f6, _⟩ := step_facts (p := p) (size := size) h1 h2 h3 (show timeB 0 = true by decide) h5 h6
  obtain ⟨t1, t2⟩ := timeB_iff.1 h3
  obtain ⟨a1, a2, _⟩ := stateB_iff.1 h2
  by_cases h : max 0 (max at_ a) < stepStart r a l at_ 0
  · have := f6 h; omega
  · have hs : stepStart r a l at_ 0 = max at_ a := by omega
    have hi : idleA a at_ = max at_ a := by unfold idleA; omega
    unfold startLevel
    rw [hs, hi, Int.sub_self, Int.mul_zero]
    unfold idleL
    split <;> omega
/-- After k frames. -/
structure Sm (r : Int) (l : List (Int × Int)) (B : Int) (S : List Int) (k : Nat) (a b : Int) : Prop where
  st : stateB a b = true
  top : b ≤ 1048576
  last : laN (sentK l S l.length) k ≤ a
  tok : b - r * a + r * laN (sentK l S l.length) k + B * 1048576 - 1048576 ≤ lvN B r (sentK l S l.length) k
  pos : ∀ i, i < k → 0 ≤ lvN B r (sentK l S l.length) (i + 1)
  ord : ∀ i, i < k → laN (sentK l S l.length) i ≤ (pr (sentK l S l.length) i).1 ∧ (pr (sentK l S l.length) i).1 ≤ 4294967296
theorem Sm.zero {r B : Int} {l : List (Int × Int)} {S : List Int} : Sm r l B S 0 0 0 := ⟨by decide, by decide, by simp [laN], by simp [laN, lvN]; omega, fun i h => by omega, fun i h => by omega⟩
theorem Sm.next {r p B a b t s : Int} {l : List (Int × Int)} {S : List Int} {k : Nat} (h : Sm r l B S k a b) (hk : k < l.length) (ht : (pr l k).1 = t) (hz : (pr l k).2 = s) (h1 : slopeB r p = true) (h3 : timeB t = true) (h5 : 1 ≤ s) (h6 : s ≤ 1542) (hB : s + 1 ≤ B)
    (hS : nt S k = stepStart r a b t 0) (hst : stateB (stepAt r p a b t 0 s) (stepLevel r p a b t 0 s) = true) : Sm r l B S (k + 1) (stepAt r p a b t 0 s) (stepLevel r p a b t 0 s) := by
  obtain ⟨f1, f2, f3, f4, f5, f6, f7, f8, f9⟩ := step_facts (p := p) (size := s) h1 h.st h3 (show timeB 0 = true by decide) h5 h6
  have hc := start_le (size := s) h1 h.st h3 h5 h6 h.top
  obtain ⟨r1, r2, p1, p2, rp⟩ := slopeB_iff.1 h1
  have e0 : pr (sentK l S l.length) k = (stepStart r a b t 0, s) := by rw [sentK_pr hk, if_pos hk, hS, hz]
  have e1 : laN (sentK l S l.length) (k + 1) = stepStart r a b t 0 := by simp only [laN, e0]
  have e2 : lvN B r (sentK l S l.length) (k + 1) = min (B * 1048576) (lvN B r (sentK l S l.length) k + r * (stepStart r a b t 0 - laN (sentK l S l.length) k)) - s * 1048576 := by simp only [lvN, e0]
  have e3 : r * (stepStart r a b t 0 - laN (sentK l S l.length) k) = r * stepStart r a b t 0 - r * laN (sentK l S l.length) k := Int.mul_sub ..
  have e4 : stepLevel r p a b t 0 s - r * stepAt r p a b t 0 s = startLevel r a b t 0 - r * stepStart r a b t 0 - 1048576 * s := by
    rw [stepLevel_eq, f4, Int.mul_add r, Int.sub_mul]
    have : r * p * s = r * (s * p) := by rw [Int.mul_assoc, Int.mul_comm p s]
    omega
  have htok := h.tok
  have hlast := h.last
  have hsp := Int.mul_nonneg (show 0 ≤ s by omega) (show 0 ≤ p by omega)
  have hrs : (r * p - 1048576) * s ≤ 0 := Int.mul_nonpos_of_nonpos_of_nonneg (by omega) (by omega)
  have hsl := stepLevel_eq r p a b t 0 s
  have key : startLevel r a b t 0 - s * 1048576 + B * 1048576 - 1048576 ≤ lvN B r (sentK l S l.length) (k + 1) := by rw [e2, e3]; omega
  refine ⟨hst, by omega, by rw [e1, f4]; omega, by rw [e1]; omega, fun i hi => ?_, fun i hi => ?_⟩
  · by_cases e : i = k
    · subst e; omega
    · exact h.pos i (by omega)
  · by_cases e : i = k
    · subst e
      rw [e0]
      exact ⟨by simp only; omega, f8⟩
    · exact h.ord i (by omega)
theorem Sm.done {r B a b : Int} {l : List (Int × Int)} {S : List Int} (h : Sm r l B S l.length a b) (hl : l.length ≤ 30) (hp : ∀ k, k < l.length → 0 ≤ (pr l k).1 ∧ (pr l k).1 ≤ 1966050 ∧ 1 ≤ (pr l k).2 ∧ (pr l k).2 ≤ 1542) :
    trE (sentK l S l.length) = 0 ∧ firstI B r (sentK l S l.length) = -1 := by
  have h1 : trOk 0 (sentK l S l.length) = true := by
    have := trOk_ofPr (l := sentK l S l.length) (fun i hi => by
      rw [sentK_length] at hi
      have q := h.ord i hi
      have q2 := hp i hi
      have e : (pr (sentK l S l.length) i).2 = (pr l i).2 := by rw [sentK_pr hi]
      rw [e]
      omega) (sentK l S l.length).length 0 (by omega)
    simpa [laN] using this
  refine ⟨?_, firstI_none fun j hj => h.pos j (by rw [sentK_length] at hj; exact hj)⟩
  unfold trE trB
  rw [if_pos]
  rw [h1, sentK_length]
  simp
  omega
theorem smooth_all {r p x y : Int} {l : List (Int × Int)} {S : List Int} (h1 : slopeE r p = 0) (hp : ∀ k, k < l.length → 0 ≤ (pr l k).1 ∧ (pr l k).1 ≤ 1966050 ∧ 1 ≤ (pr l k).2 ∧ (pr l k).2 ≤ 1542) (hr : runFrom r p l [] 0 0 = some (S, x, y)) :
    ∀ k, k ≤ l.length → ∃ a b, RunAt r p l [] k (S.take k) a b ∧ Sm r l (burstK l l.length) S k a b
  | 0, _ => ⟨0, 0, runAt_zero r p l [], Sm.zero⟩
  | k + 1, hk => by
    obtain ⟨a, b, hA, hS⟩ := smooth_all h1 hp hr k (by omega)
    have hh := runAt_here (t := (pr l k).1) (s := (pr l k).2) hA hr (pr_some (by omega))
    have hq := hp k (by omega)
    have hf : freeAt ([] : List Int) k = 0 := freeAt_out (by simp)
    rw [hf] at hh
    exact ⟨_, _, hh.2.2, hS.next (by omega) rfl rfl (slopeB_of h1) (timeB_iff.2 (by omega)) hq.2.2.1 hq.2.2.2 (burstK_ge l l.length k (by omega)) (by first | exact hh.2.1.symm | exact hh.2.1) hh.1⟩
theorem smooth_done {r p x y : Int} {l : List (Int × Int)} {S : List Int} (h1 : slopeE r p = 0) (hl : l.length ≤ 30) (hp : ∀ k, k < l.length → 0 ≤ (pr l k).1 ∧ (pr l k).1 ≤ 1966050 ∧ 1 ≤ (pr l k).2 ∧ (pr l k).2 ≤ 1542) (hr : runFrom r p l [] 0 0 = some (S, x, y)) :
    ckE (burstK l l.length) r (sentK l S l.length) = 0 ∧ cfB (burstK l l.length) r (sentK l S l.length) = true := by
  obtain ⟨a, b, _, hS⟩ := smooth_all h1 hp hr l.length (Nat.le_refl _)
  obtain ⟨d1, d2⟩ := hS.done hl hp
  have hb := burstK_bd (fun k hk => (hp k hk).2.2) l.length (Nat.le_refl _)
  have hs := slopeB_iff.1 (slopeB_of h1)
  have hk : ckE (burstK l l.length) r (sentK l S l.length) = 0 := ckE_zero (by unfold bkE; omega) d1
  exact ⟨hk, by rw [cfB_yes hk, d2]; rfl⟩
theorem sentK_zero (l : List (Int × Int)) (S : List Int) : sentK l S 0 = l := by
  refine List.ext_getElem? fun i => ?_
  rcases Nat.lt_or_ge i l.length with h | h
  · rw [pr_some h, pr_some (by rw [sentK_length]; exact h), sentK_pr h]
    simp
  · rw [List.getElem?_eq_none h, List.getElem?_eq_none (by rw [sentK_length]; exact h)]
theorem sentK_next {l : List (Int × Int)} {S : List Int} {k : Nat} (hk : k < l.length) : (sentK l S k).set k (nt S k, (pr (sentK l S k) k).2) = sentK l S (k + 1) := by
  refine List.ext_getElem? fun i => ?_
  rcases Nat.lt_or_ge i l.length with h | h
  · rw [List.getElem?_set, pr_some (l := sentK l S (k + 1)) (by rw [sentK_length]; exact h), sentK_pr h, pr_some (by rw [sentK_length]; exact h), sentK_pr h, sentK_pr hk]
    by_cases e : k = i
    · subst e
      simp [sentK_length, hk]
    · by_cases q : i < k
      · simp [e, q, show i < k + 1 by omega]
      · simp [e, q, show ¬ i < k + 1 by omega]
  · rw [List.getElem?_eq_none (by rw [List.length_set, sentK_length]; exact h), List.getElem?_eq_none (by rw [sentK_length]; exact h)]
end Go.Proofs.Ytjepnlebmgkomaa
