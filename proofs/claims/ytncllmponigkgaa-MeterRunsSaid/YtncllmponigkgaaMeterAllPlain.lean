/-
  The meter's colors and conformance, in plain words.
-/
import Derived.Test.YtncllmponigkgaaConfPlain
import Derived.Test.YtncllmponigkgaaMeterC
namespace Go.Proofs.Ytncllmponigkgaa
theorem newE_bk {cb cr pb ps : Int} (h : newE cb cr pb ps = 0) : bkE cb cr = 0 ∧ bkE pb ps = 0 := by
  unfold newE at h
  split at h
  · assumption
  · cases h
theorem cfB_ck {b r : Int} {l : List (Int × Int)} (h : cfB b r l = true) : ckE b r l = 0 := (cf_iff.1 h).1
theorem lv_up (b r : Int) (l : List (Int × Int)) (k : Nat) : lvN b r l (k + 1) = up b r (lvN b r l k) ((pr l k).1 - laN l k) - (pr l k).2 * 1048576 := rfl
theorem all_green {cb cr pb ps : Int} {l : List (Int × Int)} (hc : cfB cb cr l = true) (hp : cfB pb ps l = true) : mrunF cb cr pb ps l = List.replicate l.length 0 := by
  have key : ∀ k, k ≤ l.length → mrun cb cr pb ps 0 (cb * 1048576) (pb * 1048576) l = List.replicate k 0 ++ mrun cb cr pb ps (laN l k) (lvN cb cr l k) (lvN pb ps l k) (l.drop k) := by
    intro k
    induction k with
    | zero => intro _; simp [laN, lvN]
    | succ k ih =>
      intro hk
      have h1 := (cf_iff.1 hc).2 k (by omega)
      have h2 := (cf_iff.1 hp).2 k (by omega)
      have e1 := lv_up cb cr l k
      have e2 := lv_up pb ps l k
      have q := mrun_step (c := 0) (co' := lvN cb cr l (k + 1)) (pe' := lvN pb ps l (k + 1)) (drop_pr (l := l) (k := k) (by omega)) (ih (by omega)) (by unfold colr; omega) (by rw [if_pos rfl]; exact e1) (by rw [if_neg (by decide)]; exact e2)
      rw [q, List.replicate_succ']
      rfl
  have := key l.length (Nat.le_refl _)
  unfold mrunF
  rw [this, List.drop_eq_nil_of_le (Nat.le_refl _)]
  simp [mrun]
theorem nt_rep (n k : Nat) : nt (List.replicate n 0) k = 0 := by
  unfold nt
  rw [List.getD_eq_getElem?_getD, List.getElem?_replicate]
  split <;> rfl
theorem no_yellow {b r : Int} : ∀ (l : List (Int × Int)) (la x : Int), ∀ c ∈ mrun b r b r la x x l, c ≠ 1
  | [], la, x, c, h => by simp [mrun] at h
  | (t, s) :: l, la, x, c, h => by
    rw [mrun] at h
    rcases List.mem_cons.1 h with h | h
    · unfold colr at h
      omega
    · by_cases q : up b r x (t - la) < s * 1048576
      · have e : colr (up b r x (t - la)) (up b r x (t - la)) (s * 1048576) = 2 := by unfold colr; omega
        rw [e] at h
        simp at h
        exact no_yellow l _ _ c h
      · have e : colr (up b r x (t - la)) (up b r x (t - la)) (s * 1048576) = 0 := by unfold colr; omega
        rw [e] at h
        simp at h
        exact no_yellow l _ _ c h
theorem not_yellow {b r : Int} {l : List (Int × Int)} {k : Nat} (hk : k < l.length) : ¬ nt (mrunF b r b r l) k = 1 := by
  have hm : nt (mrunF b r b r l) k ∈ mrunF b r b r l := List.mem_of_getElem? (nt_some (by rw [mrunF_len]; exact hk))
  exact no_yellow l _ _ _ hm
theorem cfB_false {b r : Int} {l : List (Int × Int)} (h : cfB b r l = false) : false = cfB b r l := h.symm
theorem cfB_true {b r : Int} {l : List (Int × Int)} (h : cfB b r l = true) : true = cfB b r l := h.symm
theorem cfB_dec {b r : Int} {l : List (Int × Int)} (h : cfB b r l = true) : decide (ckE b r l = 0) = cfB b r l := by rw [h, cfB_ck h]; rfl
end Go.Proofs.Ytncllmponigkgaa
