/-
  The share of the rate, in plain words (no program): over any two frames the sizes times the unit are at most the rate times the time between their starts plus the credit at the first start.
-/
import Derived.Test.YtjepnlebmgkomaaCrPlain
import Derived.Test.YtjepnlebmgkomaaRunPlain
import Derived.Test.YtjepnlebmgkomaaDraftFacts
import Derived.Test.YtjepnlebmgkomaaFlat
namespace Go.Proofs.Ytjepnlebmgkomaa
theorem mul_bound {x y a b : Int} (hx : 0 ≤ x) (hxa : x ≤ a) (hy : 0 ≤ y) (hyb : y ≤ b) : 0 ≤ x * y ∧ x * y ≤ a * b :=
  ⟨Int.mul_nonneg hx hy, Int.mul_le_mul hxa hyb hy (by omega)⟩
theorem step_bd {r p a l at_ free : Int} (h1 : slopeB r p = true) (h2 : stateB a l = true) (h3 : timeB at_ = true) (h4 : timeB free = true) :
    idleA a at_ ≤ stepStart r a l at_ free ∧ free ≤ stepStart r a l at_ free ∧ stepStart r a l at_ free ≤ 4294967296 ∧ 0 ≤ r * (stepStart r a l at_ free - idleA a at_) := by
  obtain ⟨r1, r2, p1, p2, rp⟩ := slopeB_iff.1 h1
  obtain ⟨a1, a2, l1, l2⟩ := stateB_iff.1 h2
  obtain ⟨t1, t2⟩ := timeB_iff.1 h3
  obtain ⟨f1, f2⟩ := timeB_iff.1 h4
  have iA : 0 ≤ idleA a at_ ∧ idleA a at_ ≤ 1073741824 := by unfold idleA; omega
  have iL : -1616904192 ≤ idleL r a l at_ ∧ idleL r a l at_ ≤ 1125899906842624 := by
    unfold idleL
    by_cases h : at_ ≤ a
    · rw [if_pos h]
      omega
    · rw [if_neg h]
      have hm := mul_bound (x := r) (y := at_ - a) (a := 1048576) (b := 1073741824) (by omega) (by omega) (by omega) (by omega)
      omega
  have hq0 : 0 ≤ (max 0 (-(idleL r a l at_)) + r - 1) / r := Int.ediv_nonneg (by omega) (by omega)
  have hq1 : (max 0 (-(idleL r a l at_)) + r - 1) / r ≤ max 0 (-(idleL r a l at_)) + r - 1 := Int.ediv_le_self _ (by omega)
  have hge : idleA a at_ ≤ stepStart r a l at_ free ∧ free ≤ stepStart r a l at_ free ∧ stepStart r a l at_ free ≤ 4294967296 := by
    unfold stepStart
    omega
  exact ⟨hge.1, hge.2.1, hge.2.2, Int.mul_nonneg (by omega) (by omega)⟩
/-- The credit at a frame's start. -/
def startLevel (r a l at_ free : Int) : Int := idleL r a l at_ + r * (stepStart r a l at_ free - idleA a at_)
theorem stepLevel_eq (r p a l at_ free size : Int) : stepLevel r p a l at_ free size = startLevel r a l at_ free + (r * p - 1048576) * size := rfl
/-- All that the law asks of one step. -/
theorem step_facts {r p a l at_ free size : Int} (h1 : slopeB r p = true) (h2 : stateB a l = true) (h3 : timeB at_ = true) (h4 : timeB free = true) (h5 : 1 ≤ size) (h6 : size ≤ 1542) :
    0 ≤ startLevel r a l at_ free ∧ startLevel r a l at_ free ≤ 9007199254740992 ∧ -1048576 * size < stepLevel r p a l at_ free size ∧ stepAt r p a l at_ free size = stepStart r a l at_ free + size * p ∧
    max free (max at_ a) ≤ stepStart r a l at_ free ∧ (max free (max at_ a) < stepStart r a l at_ free → startLevel r a l at_ free < r) ∧ 0 ≤ stepStart r a l at_ free ∧ stepStart r a l at_ free ≤ 4294967296 ∧
    startLevel r a l at_ free - r * stepStart r a l at_ free ≤ l - r * a := by
  obtain ⟨g1, g2, g3, g4⟩ := step_bd h1 h2 h3 h4
  obtain ⟨r1, r2, p1, p2, rp⟩ := slopeB_iff.1 h1
  obtain ⟨a1, a2, l1, l2⟩ := stateB_iff.1 h2
  obtain ⟨t1, t2⟩ := timeB_iff.1 h3
  obtain ⟨f1, f2⟩ := timeB_iff.1 h4
  have iA : idleA a at_ = max a at_ := rfl
  have hidle : idleL r a l at_ - r * idleA a at_ ≤ l - r * a := by
    unfold idleL
    by_cases h : at_ ≤ a
    · rw [if_pos h, iA, show max a at_ = a by omega]
      omega
    · rw [if_neg h, iA, show max a at_ = at_ by omega]
      have e : r * (at_ - a) = r * at_ - r * a := Int.mul_sub r at_ a
      omega
  have hL : -1616904192 ≤ idleL r a l at_ ∧ idleL r a l at_ ≤ 1125899906842624 := by
    unfold idleL
    by_cases h : at_ ≤ a
    · rw [if_pos h]; omega
    · rw [if_neg h]
      have := Int.mul_nonneg (show 0 ≤ r by omega) (show 0 ≤ at_ - a by omega)
      omega
  have hq0 : 0 ≤ (max 0 (-(idleL r a l at_)) + r - 1) / r := Int.ediv_nonneg (by omega) (by omega)
  have hqm := Int.mul_ediv_add_emod (max 0 (-(idleL r a l at_)) + r - 1) r
  have hq1 := Int.emod_nonneg (max 0 (-(idleL r a l at_)) + r - 1) (b := r) (by omega)
  have hq2 := Int.emod_lt_of_pos (max 0 (-(idleL r a l at_)) + r - 1) (b := r) (by omega)
  have hst : stepStart r a l at_ free = max free (idleA a at_ + (max 0 (-(idleL r a l at_)) + r - 1) / r) := rfl
  generalize (max 0 (-(idleL r a l at_)) + r - 1) / r = q at hq0 hqm hst
  have hge : idleA a at_ + q ≤ stepStart r a l at_ free := by omega
  have hmul := Int.mul_le_mul_of_nonneg_left (show q ≤ stepStart r a l at_ free - idleA a at_ by omega) (show 0 ≤ r by omega)
  have hup := mul_bound (x := r) (y := stepStart r a l at_ free - idleA a at_) (a := 1048576) (b := 4294967296) (by omega) (by omega) (by omega) (by omega)
  have hpos : 0 ≤ startLevel r a l at_ free := by unfold startLevel; omega
  have hrp : 1 ≤ r * p := Int.mul_pos (show 0 < r by omega) (show 0 < p by omega)
  have hsz := Int.mul_le_mul_of_nonneg_right (show 1 ≤ r * p by omega) (show 0 ≤ size by omega)
  have hexp : (r * p - 1048576) * size = r * p * size - 1048576 * size := Int.sub_mul (r * p) 1048576 size
  refine ⟨hpos, by unfold startLevel; omega, ?_, rfl, by omega, ?_, by omega, g3, ?_⟩
  · rw [stepLevel_eq, hexp]
    omega
  · intro hlt
    have hs : stepStart r a l at_ free = idleA a at_ + q := by omega
    have hq : 0 < q := by omega
    have hneg : idleL r a l at_ < 0 := by
      apply Classical.byContradiction
      intro hc
      have h0 : max 0 (-(idleL r a l at_)) = 0 := by omega
      have := Int.mul_le_mul_of_nonneg_left (show 1 ≤ q by omega) (show 0 ≤ r by omega)
      omega
    unfold startLevel
    rw [hs, show idleA a at_ + q - idleA a at_ = q by omega]
    omega
  · unfold startLevel
    have e : r * (stepStart r a l at_ free - idleA a at_) = r * stepStart r a l at_ free - r * idleA a at_ := Int.mul_sub r _ _
    omega
/-- The sizes of the first k frames. -/
def sumTo (l : List (Int × Int)) (k : Nat) : Int := ((l.take k).map (·.2)).foldr (· + ·) 0
theorem foldr_snoc (l : List Int) (x : Int) : (l ++ [x]).foldr (· + ·) 0 = l.foldr (· + ·) 0 + x := by
  induction l with
  | nil => simp
  | cons y r ih => simp only [List.cons_append, List.foldr_cons, ih]; omega
theorem sumTo_succ {l : List (Int × Int)} {k : Nat} {a s : Int} (h : l[k]? = some (a, s)) : sumTo l (k + 1) = sumTo l k + s := by
  obtain ⟨hk, e⟩ := List.getElem?_eq_some_iff.1 h
  unfold sumTo
  rw [List.take_succ_eq_append_getElem hk, e, List.map_append, List.map_singleton, foldr_snoc]
/-- What is known after k frames: their starts and credits, and the state. -/
structure Sh (r : Int) (l : List (Int × Int)) (k : Nat) (S L : List Int) (a b : Int) : Prop where
  lenS : S.length = k
  lenL : L.length = k
  st : stateB a b = true
  pos : ∀ (i : Nat) (x s : Int), L[i]? = some x → S[i]? = some s → 0 ≤ x ∧ x ≤ 9007199254740992 ∧ 0 ≤ s ∧ s ≤ 4294967296
  pot : ∀ (i : Nat) (x s : Int), L[i]? = some x → S[i]? = some s → b - r * a + 1048576 * sumTo l k ≤ x - r * s + 1048576 * sumTo l i
  mono : ∀ (i j : Nat) (x s y t : Int), i < j → L[i]? = some x → S[i]? = some s → L[j]? = some y → S[j]? = some t → y - r * t + 1048576 * sumTo l j ≤ x - r * s + 1048576 * sumTo l i
theorem Sh.zero (r : Int) (l : List (Int × Int)) : Sh r l 0 [] [] 0 0 := ⟨rfl, rfl, by decide, fun i x s h => by simp at h, fun i x s h => by simp at h, fun i j x s y t _ h => by simp at h⟩
theorem snoc_at {L : List Int} {z x : Int} {i : Nat} (h : (L ++ [z])[i]? = some x) : (i < L.length ∧ L[i]? = some x) ∨ (i = L.length ∧ x = z) := by
  rcases Nat.lt_trichotomy i L.length with h1 | h1 | h1
  · rw [List.getElem?_append_left h1] at h
    exact .inl ⟨h1, h⟩
  · subst h1
    simp at h
    exact .inr ⟨rfl, h.symm⟩
  · rw [List.getElem?_eq_none (by simp; omega)] at h
    cases h
theorem Sh.next {r p a b f t s : Int} {l : List (Int × Int)} {k : Nat} {S L : List Int} (h : Sh r l k S L a b) (hx : l[k]? = some (t, s)) (h1 : slopeB r p = true) (h3 : timeB t = true) (h4 : timeB f = true) (h5 : 1 ≤ s) (h6 : s ≤ 1542)
    (hst : stateB (stepAt r p a b t f s) (stepLevel r p a b t f s) = true) :
    Sh r l (k + 1) (S ++ [stepStart r a b t f]) (L ++ [startLevel r a b t f]) (stepAt r p a b t f s) (stepLevel r p a b t f s) := by
  obtain ⟨f1, f2, f3, f4, f5, f6, f7, f8, f9⟩ := step_facts h1 h.st h3 h4 h5 h6
  have e1 : stepLevel r p a b t f s - r * stepAt r p a b t f s + 1048576 * sumTo l (k + 1) = startLevel r a b t f - r * stepStart r a b t f + 1048576 * sumTo l k := by
    rw [sumTo_succ hx, stepLevel_eq, f4, Int.mul_add r, Int.sub_mul, Int.mul_add]
    have : r * p * s = r * (s * p) := by rw [Int.mul_assoc, Int.mul_comm p s]
    omega
  refine ⟨by simp [h.lenS], by simp [h.lenL], hst, ?_, ?_, ?_⟩
  · intro i x z hx' hz'
    rcases snoc_at hx' with ⟨_, g1⟩ | ⟨g0, rfl⟩ <;> rcases snoc_at hz' with ⟨_, g2⟩ | ⟨g3, rfl⟩
    · exact h.pos i x z g1 g2
    · rename_i g; have := h.lenS; have := h.lenL; omega
    · rename_i g; have := h.lenS; have := h.lenL; omega
    · exact ⟨f1, f2, f7, f8⟩
  · intro i x z hx' hz'
    rw [e1]
    rcases snoc_at hx' with ⟨_, g1⟩ | ⟨g0, rfl⟩ <;> rcases snoc_at hz' with ⟨_, g2⟩ | ⟨g3, rfl⟩
    · have := h.pot i x z g1 g2
      omega
    · rename_i g; have := h.lenS; have := h.lenL; omega
    · rename_i g; have := h.lenS; have := h.lenL; omega
    · rw [g0, h.lenL]
      exact Int.le_refl _
  · intro i j x z y u hij hx' hz' hy' hu'
    have hi : i < k := by
      rcases snoc_at hy' with ⟨g, _⟩ | ⟨g, _⟩ <;> have := h.lenL <;> omega
    have gx : L[i]? = some x := by
      rcases snoc_at hx' with ⟨_, g⟩ | ⟨g, _⟩
      · exact g
      · have := h.lenL; omega
    have gz : S[i]? = some z := by
      rcases snoc_at hz' with ⟨_, g⟩ | ⟨g, _⟩
      · exact g
      · have := h.lenS; omega
    rcases snoc_at hy' with ⟨_, g1⟩ | ⟨g0, rfl⟩ <;> rcases snoc_at hu' with ⟨_, g2⟩ | ⟨g3, rfl⟩
    · exact h.mono i j x z y u hij gx gz g1 g2
    · rename_i g; have := h.lenS; have := h.lenL; omega
    · rename_i g; have := h.lenS; have := h.lenL; omega
    · have := h.pot i x z gx gz
      rw [g0, h.lenL]
      omega
/-- The theorem. -/
theorem Sh.share {r a b : Int} {l : List (Int × Int)} {k : Nat} {S L : List Int} (h : Sh r l k S L a b) {i j : Nat} {x s t : Int} (hij : i < j) (hj : j < k) (hx : L[i]? = some x) (hs : S[i]? = some s) (ht : S[j]? = some t) :
    (sumTo l j - sumTo l i) * 1048576 ≤ r * (t - s) + x := by
  obtain ⟨y, hy⟩ := at_of_lt (l := L) (k := j) (by have := h.lenL; omega)
  have m := h.mono i j x s y t hij hx hs hy ht
  have q := h.pos j y t hy ht
  rw [Int.mul_sub r, Int.sub_mul]
  omega
/-- The trace of a draft, sizes cut. -/
def crTr (gaps sizes : List Int) : List (Int × Int) := (drTrace gaps sizes).map capX
theorem crTr_le (gaps sizes : List Int) : (crTr gaps sizes).length ≤ 30 := by rw [crTr, List.length_map]; exact dr_le _ _
theorem crTr_pr {gaps sizes : List Int} (hg : All16 gaps) (hs : All16 sizes) {k : Nat} (hk : k < (crTr gaps sizes).length) :
    0 ≤ (pr (crTr gaps sizes) k).1 ∧ (pr (crTr gaps sizes) k).1 ≤ 1966050 ∧ 1 ≤ (pr (crTr gaps sizes) k).2 ∧ (pr (crTr gaps sizes) k).2 ≤ 1542 := by
  have hk' : k < (drTrace gaps sizes).length := by rw [crTr, List.length_map] at hk; exact hk
  have h := dr_pr hg hs hk'
  unfold crTr
  rw [cap_pr hk']
  simp only
  omega
theorem trOk_cap : ∀ (l : List (Int × Int)) (la : Int), trOk la l = true → trOk la (l.map capX) = true
  | [], _, _ => rfl
  | x :: r, la, h => by
    simp only [List.map_cons, trOk, Bool.and_eq_true, decide_eq_true_eq, capX] at h ⊢
    exact ⟨by omega, trOk_cap r _ h.2⟩
theorem crTr_trE {gaps sizes : List Int} (hg : All16 gaps) (hs : All16 sizes) : trE (crTr gaps sizes) = 0 := by
  have h := trE_ok (dr_trE hg hs)
  unfold trE trB crTr
  rw [if_pos]
  simp only [Bool.and_eq_true, decide_eq_true_eq, List.length_map]
  exact ⟨h.1, trOk_cap _ _ h.2⟩
theorem cstE_cases {r p a l at_ free size : Int} (h1 : slopeE r p = 0) (h2 : stateB a l = true) (h3 : timeB at_ = true) (h4 : timeB free = true) (h5 : 1 ≤ size) (h6 : size ≤ 1542) :
    (cstE r p a l at_ free size = 0 ∧ stateB (stepAt r p a l at_ free size) (stepLevel r p a l at_ free size) = true) ∨ (cstE r p a l at_ free size = 6 ∧ stateB (stepAt r p a l at_ free size) (stepLevel r p a l at_ free size) = false) := by
  obtain ⟨t1, t2⟩ := timeB_iff.1 h3
  obtain ⟨f1, f2⟩ := timeB_iff.1 h4
  unfold cstE
  rw [if_pos h1, if_pos (stateE_yes h2), if_pos (by omega)]
  cases h : stateB (stepAt r p a l at_ free size) (stepLevel r p a l at_ free size)
  · rw [stateE_no h]; exact .inr ⟨rfl, rfl⟩
  · rw [stateE_yes h]; exact .inl ⟨rfl, rfl⟩
theorem cst_six {r p a l at_ free size : Int} (h1 : slopeE r p = 0) (h2 : stateB a l = true) (h3 : timeB at_ = true) (h4 : timeB free = true) (h5 : 1 ≤ size) (h6 : size ≤ 1542) (h : ¬ cstE r p a l at_ free size = 0) : cstE r p a l at_ free size = 6 := by
  rcases cstE_cases h1 h2 h3 h4 h5 h6 with q | q
  · exact absurd q.1 h
  · exact q.1
theorem cst_state {r p a l at_ free size : Int} (h1 : slopeE r p = 0) (h2 : stateB a l = true) (h3 : timeB at_ = true) (h4 : timeB free = true) (h5 : 1 ≤ size) (h6 : size ≤ 1542) (h : cstE r p a l at_ free size = 0) : stateB (stepAt r p a l at_ free size) (stepLevel r p a l at_ free size) = true := by
  rcases cstE_cases h1 h2 h3 h4 h5 h6 with q | q
  · exact q.2
  · rw [h] at q
    cases q.1
theorem cst_ok {r p a l at_ free size : Int} (h : cstE r p a l at_ free size = 0) : cstS r p a l at_ free size = stepStart r a l at_ free ∧ cstA r p a l at_ free size = stepAt r p a l at_ free size ∧ cstL r p a l at_ free size = stepLevel r p a l at_ free size := by
  unfold cstS cstA cstL
  rw [if_pos h, if_pos h, if_pos h]
  exact ⟨rfl, rfl, rfl⟩
theorem sumTo_bd {l : List (Int × Int)} (h : ∀ k, k < l.length → 1 ≤ (pr l k).2 ∧ (pr l k).2 ≤ 1542) : ∀ k, k ≤ l.length → 0 ≤ sumTo l k ∧ sumTo l k ≤ 1542 * (k : Int)
  | 0, _ => by simp [sumTo]
  | k + 1, hk => by
    have h1 := sumTo_bd h k (by omega)
    have h2 := h k (by omega)
    rw [sumTo_succ (a := (pr l k).1) (s := (pr l k).2) (pr_some (by omega))]
    omega
end Go.Proofs.Ytjepnlebmgkomaa
