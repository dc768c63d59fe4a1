/-
  Curves in plain words: the bound of the delay holds; what is waiting; the output.
-/
import Derived.Test.YtoighcbbaacnaaaDrainPlain2
import Derived.Test.YtoighcbbaacnaaaPartPlain
namespace Go.Proofs.Ytoighcbbaacnaaa
set_option linter.unusedVariables false
theorem hold_one {S b q x r D : Int} (h : (S - b) * 1048576 ≤ q * x) (hx : 0 ≤ x) (hq : q ≤ r) (hr : 1 ≤ r) (hD : cq (b * 1048576) r ≤ D) : S * 1048576 ≤ (x + D) * r := by
  have g := cq_ge (n := b * 1048576) hr
  have m1 : q * x ≤ r * x := Int.mul_le_mul_of_nonneg_right hq hx
  have m2 : cq (b * 1048576) r * r ≤ D * r := Int.mul_le_mul_of_nonneg_right hD (by omega)
  rw [Int.add_mul, Int.mul_comm x r]
  omega
theorem hold_id (p1 p2 q1 q2 r x : Int) : (r - q2) * (p2 * x) + (p2 - r) * (q2 * x) = x * (r * (p2 - q2)) := by grind
theorem hold_id2 (S p1 p2 q1 q2 r : Int) : (r - q2) * ((S - p1) * 1048576) + (p2 - r) * ((S - q1) * 1048576) = (p2 - q2) * (S * 1048576) - ((p2 - r) * q1 + (r - q2) * p1) * 1048576 := by grind
theorem hold_id3 (x D r c : Int) : x * (r * c) + D * (r * c) = c * ((x + D) * r) := by grind
theorem hold_two {S x r D : Int} {p q : Int × Int} (h1 : (S - p.1) * 1048576 ≤ p.2 * x) (h2 : (S - q.1) * 1048576 ≤ q.2 * x) (hr : 1 ≤ r) (hp : r < p.2) (hq : q.2 ≤ r) (hD : cq (crs r p q * 1048576) (r * (p.2 - q.2)) ≤ D) : S * 1048576 ≤ (x + D) * r := by
  have hc : 1 ≤ r * (p.2 - q.2) := by have : 1 * 1 ≤ r * (p.2 - q.2) := Int.mul_le_mul (by omega) (by omega) (by omega) (by omega); omega
  have g := (cq_iff hc).1 hD
  have m1 := Int.mul_le_mul_of_nonneg_left h1 (show 0 ≤ r - q.2 by omega)
  have m2 := Int.mul_le_mul_of_nonneg_left h2 (show 0 ≤ p.2 - r by omega)
  have e1 := hold_id p.1 p.2 q.1 q.2 r x
  have e2 := hold_id2 S p.1 p.2 q.1 q.2 r
  have e3 := hold_id3 x D r (p.2 - q.2)
  unfold crs at g
  refine Int.le_of_mul_le_mul_left (a := p.2 - q.2) ?_ (by omega)
  omega
theorem hold_dIn {r S x : Int} {q : Int × Int} {bl : List (Int × Int)} (hr : 1 ≤ r) (hx : 0 ≤ x) (h : ∀ j, j < bl.length → (S - (pr bl j).1) * 1048576 ≤ (pr bl j).2 * x) (hq : (S - q.1) * 1048576 ≤ q.2 * x) (hqr : q.2 ≤ r) : ∀ k, k ≤ bl.length → ∀ D ∈ dIn r q bl k, S * 1048576 ≤ (x + D) * r
  | 0, _, D, hD => by cases hD
  | k + 1, hk, D, hD => by
    by_cases c : (pr bl k).2 ≤ r ∨ q.1 ≤ (pr bl k).1
    · rw [dIn_skip c] at hD; exact hold_dIn hr hx h hq hqr k (by omega) D hD
    · rw [dIn_take c] at hD
      rcases List.mem_append.1 hD with z | z
      · exact hold_dIn hr hx h hq hqr k (by omega) D z
      · have e := List.mem_singleton.1 z
        exact hold_two (p := pr bl k) (q := q) (h k (by omega)) hq hr (by omega) hqr (by omega)
theorem hold_dAll {r S x : Int} {bl : List (Int × Int)} (hr : 1 ≤ r) (hx : 0 ≤ x) (h : ∀ j, j < bl.length → (S - (pr bl j).1) * 1048576 ≤ (pr bl j).2 * x) : ∀ k, k ≤ bl.length → ∀ D ∈ dAll r bl k, S * 1048576 ≤ (x + D) * r
  | 0, _, D, hD => by cases hD
  | k + 1, hk, D, hD => by
    by_cases c : r < (pr bl k).2
    · rw [dAll_skip c] at hD; exact hold_dAll hr hx h k (by omega) D hD
    · rw [dAll_take c] at hD
      rcases List.mem_append.1 hD with z | z
      · exact hold_dAll hr hx h k (by omega) D z
      · rcases List.mem_cons.1 z with e | z
        · exact hold_one (h k (by omega)) hx (by omega) hr (by omega)
        · exact hold_dIn hr hx h (h k (by omega)) (by omega) bl.length (Nat.le_refl _) D z
/-- The least is one of those that have come, and no greater than any. -/
theorem clFold_mem : ∀ (L : List Int) (s : Int × Bool), (L.foldl clS s).1 = s.1 ∨ (L.foldl clS s).1 ∈ L
  | [], s => .inl rfl
  | x :: L, s => by
    rcases clFold_mem L (clS s x) with h | h
    · have : (clS s x).1 = s.1 ∨ (clS s x).1 = x := by unfold clS; split <;> simp
      rcases this with q | q
      · exact .inl (h.trans q)
      · exact .inr (by rw [List.foldl_cons, h, q]; exact List.mem_cons_self ..)
    · exact .inr (List.mem_cons_of_mem _ h)
theorem clFold_le : ∀ (L : List Int) (s : Int × Bool), s.2 = true → (L.foldl clS s).1 ≤ s.1 ∧ ∀ x ∈ L, (L.foldl clS s).1 ≤ x
  | [], s, _ => ⟨Int.le_refl _, fun x h => by cases h⟩
  | x :: L, s, hs => by
    obtain ⟨h1, h2⟩ := clFold_le L (clS s x) (clS_found s x)
    have m := clS_min (x := x) hs
    refine ⟨?_, fun y hy => ?_⟩
    · rw [List.foldl_cons]; omega
    · rcases List.mem_cons.1 hy with rfl | hy
      · rw [List.foldl_cons]; omega
      · exact h2 y hy
theorem clF_mem {L : List Int} (h : L ≠ []) : (clF L).1 ∈ L := by
  cases L with
  | nil => exact absurd rfl h
  | cons x L =>
    unfold clF
    rw [List.foldl_cons, show clS (0, false) x = (x, true) from rfl]
    rcases clFold_mem L (x, true) with q | q
    · rw [q]; exact List.mem_cons_self ..
    · exact List.mem_cons_of_mem _ q
theorem clF_le {L : List Int} {x : Int} (h : x ∈ L) : (clF L).1 ≤ x := by
  cases L with
  | nil => cases h
  | cons y L =>
    unfold clF
    rw [List.foldl_cons, show clS (0, false) y = (y, true) from rfl]
    obtain ⟨h1, h2⟩ := clFold_le L (y, true) rfl
    rcases List.mem_cons.1 h with rfl | h
    · exact h1
    · exact h2 x h
/-- The latest departure of a frame of a trace that conforms to all buckets. -/
theorem hold_all {r t : Int} {bl l : List (Int × Int)} (hr : 1 ≤ r) (ht : trE l = 0) (h : ∀ k, k < bl.length → cfB (pr bl k).1 (pr bl k).2 l = true) (hf : (clF (dAll r bl bl.length)).2 = true) {j : Nat} (hj : j < l.length) :
    t + cq (enN r l (j + 1)) r ≤ (pr l j).1 + (t + (clF (dAll r bl bl.length)).1) := by
  have hm := clF_mem ((clF_found _).1 hf)
  obtain ⟨D, hD⟩ : ∃ D, D = (clF (dAll r bl bl.length)).1 := ⟨_, rfl⟩
  rw [← hD] at hm ⊢
  have : cq (enN r l (j + 1)) r ≤ (pr l j).1 + D := by
    rw [cq_iff hr, enN_le hr ht j hj]
    intro i hi
    have tm := at_mono ht hi hj
    have := hold_dAll (r := r) (S := sumN l (j + 1) - sumN l i) (x := (pr l j).1 - (pr l i).1) hr (by omega) (fun k hk => (cf_int (cf_iff.1 (h k hk)).1).1 (h k hk) i j hi hj) bl.length (Nat.le_refl _) D hm
    have e : ((pr l j).1 - (pr l i).1 + D) * r = ((pr l j).1 + D) * r - (pr l i).1 * r := by rw [← Int.sub_mul]; congr 1; omega
    omega
  omega
theorem enN_mono {r : Int} {l : List (Int × Int)} (ht : trE l = 0) {k : Nat} (hk : k < l.length) : enN r l k ≤ enN r l (k + 1) := by
  have := tr_all ht k hk
  simp only [enN]
  omega
theorem cq_mono {n m d : Int} (hd : 1 ≤ d) (h : n ≤ m) : cq n d ≤ cq m d := (cq_iff hd).2 (by have := cq_ge (n := m) hd; omega)
theorem drL_at {r t : Int} {l : List (Int × Int)} : ∀ {n k : Nat}, k < n → nt (drL r t l n) k = t + cq (enN r l (k + 1)) r
  | n + 1, k, h => by
    show nt (drL r t l n ++ [_]) k = _
    have hl := drL_len r t l n
    by_cases e : k = n
    · subst e
      simp [nt, hl]
    · have := drL_at (r := r) (t := t) (l := l) (n := n) (k := k) (by omega)
      rw [← this]
      unfold nt
      rw [List.getD_eq_getElem?_getD, List.getD_eq_getElem?_getD, List.getElem?_append_left (by omega)]
/-- What is waiting. -/
theorem waits_ok {S b q r t x y : Int} (h : (S - b) * 1048576 ≤ q * x) (hx : 0 ≤ x) (hy : x ≤ y) (hq : 1 ≤ q) (hr : q ≤ r) (ht : 0 ≤ t) : S * 1048576 - r * max 0 (y - t) ≤ (b + cq (q * t) 1048576) * 1048576 := by
  have g := cq_ge (n := q * t) (d := 1048576) (by decide)
  rcases Int.le_total y t with z | z
  · have e : max 0 (y - t) = 0 := by omega
    have m := Int.mul_le_mul_of_nonneg_left (show x ≤ t by omega) (show 0 ≤ q by omega)
    rw [e, Int.mul_zero]
    omega
  · have e : max 0 (y - t) = y - t := by omega
    have m1 := Int.mul_le_mul_of_nonneg_right hr (show 0 ≤ y - t by omega)
    have m2 := Int.mul_le_mul_of_nonneg_left (show x - t ≤ y - t by omega) (show 0 ≤ q by omega)
    rw [Int.mul_sub q x t] at m2
    rw [e]
    omega
/-- The frames that leave late. -/
def oAt (l : List (Int × Int)) (wt : List Int) (D : Int) : Nat → Int
  | 0 => 0
  | k + 1 => max (oAt l wt D k) ((pr l k).1 + (if k < wt.length then nt wt k % (D + 1) else 0))
def oL (l : List (Int × Int)) (wt : List Int) (D : Int) : Nat → List (Int × Int)
  | 0 => l
  | k + 1 => (oL l wt D k).set k (oAt l wt D (k + 1), (pr (oL l wt D k) k).2)
theorem oL_len (l : List (Int × Int)) (wt : List Int) (D : Int) : ∀ k, (oL l wt D k).length = l.length
  | 0 => rfl
  | k + 1 => by show ((oL l wt D k).set _ _).length = _; rw [List.length_set, oL_len l wt D k]
theorem pr_set {l : List (Int × Int)} {k i : Nat} {x : Int × Int} (hk : k < l.length) : pr (l.set k x) i = if i = k then x else pr l i := by
  unfold pr
  rw [List.getD_eq_getElem?_getD, List.getD_eq_getElem?_getD, List.getElem?_set]
  by_cases e : i = k
  · subst e; simp [hk]
  · rw [if_neg e, if_neg (fun q => e q.symm)]
theorem oL_pr {l : List (Int × Int)} {wt : List Int} {D : Int} : ∀ {k : Nat}, k ≤ l.length → ∀ i, i < l.length → pr (oL l wt D k) i = if i < k then (oAt l wt D (i + 1), (pr l i).2) else pr l i
  | 0, _, i, _ => by rw [if_neg (by omega)]; rfl
  | k + 1, hk, i, hi => by
    have ih := oL_pr (l := l) (wt := wt) (D := D) (k := k) (by omega)
    show pr ((oL l wt D k).set k _) i = _
    rw [pr_set (by rw [oL_len]; omega)]
    by_cases e : i = k
    · subst e
      rw [if_pos rfl, if_pos (by omega), ih i hi, if_neg (by omega)]
    · rw [if_neg e, ih i hi]
      by_cases q : i < k
      · rw [if_pos q, if_pos (by omega)]
      · rw [if_neg q, if_neg (by omega)]
theorem oAt_bd {l : List (Int × Int)} {wt : List Int} {D : Int} (ht : trE l = 0) (hD : 0 ≤ D) (hw : ∀ k, 0 ≤ nt wt k) : ∀ k, k < l.length → (pr l k).1 ≤ oAt l wt D (k + 1) ∧ oAt l wt D (k + 1) ≤ (pr l k).1 + D
  | 0, hk => by
    have t := tr_all ht 0 hk
    have m := Int.emod_nonneg (nt wt 0) (show D + 1 ≠ 0 by omega)
    have m2 := Int.emod_lt_of_pos (nt wt 0) (show 0 < D + 1 by omega)
    simp only [oAt]
    split <;> omega
  | k + 1, hk => by
    have ih := oAt_bd (wt := wt) ht hD hw k (by omega)
    have t := tr_all ht (k + 1) hk
    simp only [laN] at t
    have m := Int.emod_nonneg (nt wt (k + 1)) (show D + 1 ≠ 0 by omega)
    have m2 := Int.emod_lt_of_pos (nt wt (k + 1)) (show 0 < D + 1 by omega)
    rw [show oAt l wt D (k + 1 + 1) = max (oAt l wt D (k + 1)) ((pr l (k + 1)).1 + (if k + 1 < wt.length then nt wt (k + 1) % (D + 1) else 0)) from rfl]
    split <;> omega
theorem oAt_up (l : List (Int × Int)) (wt : List Int) (D : Int) (k : Nat) : oAt l wt D k ≤ oAt l wt D (k + 1) := by simp only [oAt]; omega
theorem emod_le_self {x d : Int} (hx : 0 ≤ x) (hd : 0 < d) : x % d ≤ x := by
  have h1 := Int.mul_ediv_add_emod x d
  have h2 := Int.mul_nonneg (show 0 ≤ d by omega) (Int.ediv_nonneg hx (show 0 ≤ d by omega))
  omega
theorem oAt_cap {l : List (Int × Int)} {wt : List Int} {D M C : Int} (hM : ∀ k, k < l.length → (pr l k).1 ≤ M) (h0 : 0 ≤ M) (hC : 0 ≤ C) (hD : 0 ≤ D) (hw : ∀ k, 0 ≤ nt wt k ∧ nt wt k ≤ C) : ∀ k, k ≤ l.length → 0 ≤ oAt l wt D k ∧ oAt l wt D k ≤ M + C
  | 0, _ => by simp only [oAt]; omega
  | k + 1, hk => by
    have ih := oAt_cap (wt := wt) (D := D) hM h0 hC hD hw k (by omega)
    have := hM k (by omega)
    have w := hw k
    have m : nt wt k % (D + 1) ≤ nt wt k := emod_le_self w.1 (by omega)
    simp only [oAt]
    split <;> omega
theorem sumN_same {l m : List (Int × Int)} {n : Nat} (h : ∀ i, i < n → (pr l i).2 = (pr m i).2) : ∀ k, k ≤ n → sumN l k = sumN m k
  | 0, _ => rfl
  | k + 1, hk => by simp only [sumN]; rw [sumN_same h k (by omega), h k (by omega)]
/-- They conform to the output's bucket. -/
theorem out_cf {b q D : Int} {l : List (Int × Int)} {wt : List Int} (hc : cfB b q l = true) (hl : l.length ≤ 200) (hM : ∀ k, k < l.length → (pr l k).1 ≤ 1966050) (hD : 0 ≤ D) (hw : ∀ k, 0 ≤ nt wt k ∧ nt wt k ≤ 4294967295) (ho : bkE (b + cq (q * D) 1048576) q = 0) :
    cfB (b + cq (q * D) 1048576) q (oL l wt D l.length) = true ∧ ckE (b + cq (q * D) 1048576) q (oL l wt D l.length) = 0 := by
  have ht := ckE_tr (cf_iff.1 hc).1
  have kb := ckE_bk (cf_iff.1 hc).1
  have hp := oL_pr (l := l) (wt := wt) (D := D) (k := l.length) (Nat.le_refl _)
  have hlen := oL_len l wt D l.length
  have hpr : ∀ i, i < l.length → pr (oL l wt D l.length) i = (oAt l wt D (i + 1), (pr l i).2) := fun i hi => by rw [hp i hi, if_pos hi]
  have htr : trE (oL l wt D l.length) = 0 := by
    refine trE_of (by rw [hlen]; exact hl) fun i hi => ?_
    rw [hlen] at hi
    have t := tr_all ht i hi
    have c := oAt_cap (wt := wt) (D := D) (M := 1966050) (C := 4294967295) hM (by decide) (by decide) hD hw (i + 1) (by omega)
    have hla : laN (oL l wt D l.length) i = oAt l wt D i := by
      cases i with
      | zero => rfl
      | succ i => simp only [laN]; rw [hpr i (by omega)]
    have u := oAt_up l wt D i
    rw [hpr i hi, hla]
    exact ⟨u, by simp only; omega, t.2.2.1, t.2.2.2.1⟩
  have hck : ckE (b + cq (q * D) 1048576) q (oL l wt D l.length) = 0 := ckE_zero ho htr
  refine ⟨(cf_int hck).2 fun i j hij hj => ?_, hck⟩
  rw [hlen] at hj
  have h0 := (cf_int (cf_iff.1 hc).1).1 hc i j hij hj
  unfold okIJ at h0 ⊢
  have es : ∀ k, k ≤ l.length → sumN (oL l wt D l.length) k = sumN l k := sumN_same fun i hi => by rw [hpr i hi]
  rw [es _ (by omega), es _ (by omega), hpr i (by omega), hpr j hj]
  have b1 := oAt_bd (wt := wt) ht hD (fun k => (hw k).1) i (by omega)
  have b2 := oAt_bd (wt := wt) ht hD (fun k => (hw k).1) j hj
  have g := cq_ge (n := q * D) (d := 1048576) (by decide)
  have m := Int.mul_le_mul_of_nonneg_left (show (pr l j).1 - (pr l i).1 - D ≤ oAt l wt D (j + 1) - oAt l wt D (i + 1) by omega) (show 0 ≤ q by omega)
  rw [Int.mul_sub q _ D] at m
  dsimp only
  omega
end Go.Proofs.Ytoighcbbaacnaaa
