/-
  The shaper in plain words: eligible times, states, runs.
-/
import Derived.Test.YtaekcgapbkmepaaCurvePlain
import Derived.Test.YtaekcgapbkmepaaPartPlain
namespace Go.Proofs.Ytaekcgapbkmepaa
set_option linter.unusedVariables false
theorem cq_iff' {n d B : Int} (hd : 1 ≤ d) : cq n d ≤ B ↔ n ≤ B * d := by
  refine ⟨fun h => ?_, cq_le hd⟩
  have g := cq_ge (n := n) hd
  have := Int.mul_le_mul_of_nonneg_right h (show 0 ≤ d by omega)
  omega
theorem cq_zero {d : Int} (hd : 1 ≤ d) : cq 0 d = 0 := by unfold cq; simp
theorem cq_cd {n d : Int} (h : 0 ≤ n ∧ n ≤ 1125899906842624) (hd : 1 ≤ d ∧ d ≤ 1125899906842624) : cdV n d = cq n d := by
  unfold cdV cq
  rw [if_pos]
  exact decide_eq_true ⟨⟨by omega, by omega⟩, ⟨by omega, by omega⟩, hd.1⟩
def snL (b r : Int) : Int := if bkE b r = 0 then b * 1048576 else 0
theorem snL_yes {b r : Int} (h : bkE b r = 0) : snL b r = b * 1048576 := by unfold snL; rw [if_pos h]
theorem snL_no {b r : Int} (h : ¬ bkE b r = 0) : snL b r = 0 := by unfold snL; rw [if_neg h]
def skE (b r la lv : Int) : Int := if bkE b r = 0 then (if 0 ≤ la ∧ la ≤ 1099511627776 ∧ 0 ≤ lv ∧ lv ≤ b * 1048576 then 0 else 440) else 130
theorem sk_130 {b r la lv : Int} (h : ¬ bkE b r = 0) : skE b r la lv = 130 := by unfold skE; rw [if_neg h]
theorem sk_440 {b r la lv : Int} (h : bkE b r = 0) (h1 : ¬ (0 ≤ la ∧ la ≤ 1099511627776 ∧ 0 ≤ lv ∧ lv ≤ b * 1048576)) : skE b r la lv = 440 := by unfold skE; rw [if_pos h, if_neg h1]
theorem sk_0 {b r la lv : Int} (h : bkE b r = 0) (h1 : 0 ≤ la ∧ la ≤ 1099511627776 ∧ 0 ≤ lv ∧ lv ≤ b * 1048576) : skE b r la lv = 0 := by unfold skE; rw [if_pos h, if_pos h1]
theorem sk_ok {b r la lv : Int} (h : skE b r la lv = 0) : bkE b r = 0 ∧ 0 ≤ la ∧ la ≤ 1099511627776 ∧ 0 ≤ lv ∧ lv ≤ b * 1048576 := by
  unfold skE at h
  split at h
  · split at h
    · rename_i h1 h2; exact ⟨h1, h2⟩
    · cases h
  · cases h
theorem sk_bd {b r la lv : Int} (h : skE b r la lv = 0) : 1 ≤ b ∧ b ≤ 1048576 ∧ 1 ≤ r ∧ r ≤ 2097152 ∧ 0 ≤ la ∧ la ≤ 1099511627776 ∧ 0 ≤ lv ∧ lv ≤ b * 1048576 := by
  have h1 := sk_ok h
  have h2 := bkE_ok h1.1
  omega
/-- What is short of a frame's tokens; its eligible time; the level behind it. -/
def elW (b r la lv at_ s : Int) : Int := max 0 (s * 1048576 - up b r lv (max at_ la - la))
def elT (b r la lv at_ s : Int) : Int := max at_ la + cq (elW b r la lv at_ s) r
def elL (b r la lv at_ s : Int) : Int := up b r lv (elT b r la lv at_ s - la) - s * 1048576
theorem el_bd {b r la lv at_ s : Int} (h : skE b r la lv = 0) (ha : 0 ≤ at_ ∧ at_ ≤ 1099511627776) (hs : 1 ≤ s ∧ s ≤ b) :
    (0 ≤ elW b r la lv at_ s ∧ elW b r la lv at_ s ≤ 1099511627776) ∧ (0 ≤ cq (elW b r la lv at_ s) r ∧ cq (elW b r la lv at_ s) r ≤ 1099511627776) ∧ at_ ≤ elT b r la lv at_ s ∧ la ≤ elT b r la lv at_ s ∧ elT b r la lv at_ s ≤ 2199023255552 ∧ 0 ≤ elL b r la lv at_ s ∧ elL b r la lv at_ s ≤ b * 1048576 := by
  have k := sk_bd h
  have u := up_bd (b := b) (r := r) (n := lv) (t := max at_ la - la) (by omega) (by omega) (by omega) (by omega)
  have w1 : 0 ≤ elW b r la lv at_ s ∧ elW b r la lv at_ s ≤ 1099511627776 := by unfold elW; omega
  have c1 := cq_nn (d := r) (by omega) w1.1
  have c2 := cq_le (d := r) (n := elW b r la lv at_ s) (B := 1099511627776) (by omega) (by omega)
  have t1 : at_ ≤ elT b r la lv at_ s ∧ la ≤ elT b r la lv at_ s ∧ elT b r la lv at_ s ≤ 2199023255552 := by unfold elT; omega
  refine ⟨w1, ⟨c1, c2⟩, t1.1, t1.2.1, t1.2.2, ?_, ?_⟩
  · have g := cq_ge (n := elW b r la lv at_ s) (d := r) (by omega)
    have e : lv + r * (elT b r la lv at_ s - la) = lv + r * (max at_ la - la) + cq (elW b r la lv at_ s) r * r := by
      rw [show elT b r la lv at_ s - la = (max at_ la - la) + cq (elW b r la lv at_ s) r by unfold elT; omega, Int.mul_add, Int.mul_comm r (cq _ _)]
      omega
    unfold elL
    unfold elW at g
    unfold up at g ⊢
    rw [e]
    unfold elW up
    omega
  · have := Int.mul_nonneg (show 0 ≤ r by omega) (show 0 ≤ elT b r la lv at_ s - la by omega)
    unfold elL up
    omega
/-- A frame that does not fit yet does not fit a tick earlier. -/
def seE (b r la lv at_ s : Int) : Int := if skE b r la lv = 0 then (if 0 ≤ at_ ∧ at_ ≤ 1099511627776 ∧ 1 ≤ s ∧ s ≤ 1048576 then (if b < s then 4 else if 1099511627776 < elT b r la lv at_ s then 6 else 0) else 2) else skE b r la lv
def seT (b r la lv at_ s : Int) : Int := if seE b r la lv at_ s = 0 then elT b r la lv at_ s else 0
def seL (b r la lv at_ s : Int) : Int := if seE b r la lv at_ s = 0 then elL b r la lv at_ s else 0
theorem se_no {b r la lv at_ s e : Int} (h : seE b r la lv at_ s = e) (he : e ≠ 0) : seE b r la lv at_ s = e ∧ seT b r la lv at_ s = 0 ∧ seL b r la lv at_ s = 0 := ⟨h, by unfold seT; rw [if_neg (by rw [h]; exact he)], by unfold seL; rw [if_neg (by rw [h]; exact he)]⟩
theorem se_sk {b r la lv at_ s : Int} (h : ¬ skE b r la lv = 0) : seE b r la lv at_ s = skE b r la lv ∧ seT b r la lv at_ s = 0 ∧ seL b r la lv at_ s = 0 := se_no (by unfold seE; rw [if_neg h]) h
theorem se_2 {b r la lv at_ s : Int} (h : skE b r la lv = 0) (h1 : ¬ (0 ≤ at_ ∧ at_ ≤ 1099511627776 ∧ 1 ≤ s ∧ s ≤ 1048576)) : seE b r la lv at_ s = 2 ∧ seT b r la lv at_ s = 0 ∧ seL b r la lv at_ s = 0 := se_no (by unfold seE; rw [if_pos h, if_neg h1]) (by decide)
theorem se_4 {b r la lv at_ s : Int} (h : skE b r la lv = 0) (h1 : 0 ≤ at_ ∧ at_ ≤ 1099511627776 ∧ 1 ≤ s ∧ s ≤ 1048576) (h2 : b < s) : seE b r la lv at_ s = 4 ∧ seT b r la lv at_ s = 0 ∧ seL b r la lv at_ s = 0 := se_no (by unfold seE; rw [if_pos h, if_pos h1, if_pos h2]) (by decide)
theorem se_6 {b r la lv at_ s : Int} (h : skE b r la lv = 0) (h1 : 0 ≤ at_ ∧ at_ ≤ 1099511627776 ∧ 1 ≤ s ∧ s ≤ 1048576) (h2 : ¬ b < s) (h3 : 1099511627776 < elT b r la lv at_ s) : seE b r la lv at_ s = 6 ∧ seT b r la lv at_ s = 0 ∧ seL b r la lv at_ s = 0 := se_no (by unfold seE; rw [if_pos h, if_pos h1, if_neg h2, if_pos h3]) (by decide)
theorem se_0 {b r la lv at_ s : Int} (h : skE b r la lv = 0) (h1 : 0 ≤ at_ ∧ at_ ≤ 1099511627776 ∧ 1 ≤ s ∧ s ≤ 1048576) (h2 : ¬ b < s) (h3 : ¬ 1099511627776 < elT b r la lv at_ s) : seE b r la lv at_ s = 0 ∧ seT b r la lv at_ s = elT b r la lv at_ s ∧ seL b r la lv at_ s = elL b r la lv at_ s := by
  have e : seE b r la lv at_ s = 0 := by unfold seE; rw [if_pos h, if_pos h1, if_neg h2, if_neg h3]
  exact ⟨e, by unfold seT; rw [if_pos e], by unfold seL; rw [if_pos e]⟩
theorem se_ok {b r la lv at_ s : Int} (h : seE b r la lv at_ s = 0) : skE b r la lv = 0 ∧ (0 ≤ at_ ∧ at_ ≤ 1099511627776 ∧ 1 ≤ s ∧ s ≤ 1048576) ∧ s ≤ b ∧ elT b r la lv at_ s ≤ 1099511627776 := by
  unfold seE at h
  split at h
  · split at h
    · split at h
      · cases h
      · split at h
        · cases h
        · rename_i h1 h2 h3 h4; exact ⟨h1, h2, by omega, by omega⟩
    · cases h
  · rename_i h1; exact absurd h h1
/-- The state behind k frames. -/
def shN (b r : Int) (l : List (Int × Int)) : Nat → Int × Int
  | 0 => (0, b * 1048576)
  | k + 1 => (elT b r (shN b r l k).1 (shN b r l k).2 (pr l k).1 (pr l k).2, elL b r (shN b r l k).1 (shN b r l k).2 (pr l k).1 (pr l k).2)
def shUp (b r : Int) (l : List (Int × Int)) (k : Nat) : List Int := (List.range k).map fun j => (shN b r l (j + 1)).1
theorem shUp_succ (b r : Int) (l : List (Int × Int)) (k : Nat) : shUp b r l (k + 1) = shUp b r l k ++ [(shN b r l (k + 1)).1] := by simp [shUp, List.range_succ]
theorem shUp_length (b r : Int) (l : List (Int × Int)) (k : Nat) : (shUp b r l k).length = k := by simp [shUp]
theorem shUp_at {b r : Int} {l : List (Int × Int)} {n k : Nat} (h : k < n) : nt (shUp b r l n) k = (shN b r l (k + 1)).1 := by simp [nt, shUp, h]
def fitB (b : Int) (l : List (Int × Int)) : Bool := l.all fun x => decide (x.2 ≤ b)
theorem fitB_yes {b : Int} {l : List (Int × Int)} (h : ∀ j, j < l.length → (pr l j).2 ≤ b) : fitB b l = true := by
  unfold fitB
  rw [List.all_eq_true]
  intro x hx
  obtain ⟨j, hj, e⟩ := List.getElem_of_mem hx
  have := h j hj
  rw [show pr l j = x by unfold pr; rw [List.getD_eq_getElem?_getD, List.getElem?_eq_getElem hj, e]; rfl] at this
  exact decide_eq_true this
theorem fitB_get {b : Int} {l : List (Int × Int)} (h : fitB b l = true) {k : Nat} (hk : k < l.length) : (pr l k).2 ≤ b := of_decide_eq_true (List.all_eq_true.1 h _ (List.mem_of_getElem? (pr_some hk)))
def allT (b r : Int) (l : List (Int × Int)) (k : Nat) : Bool := (shUp b r l k).all fun t => decide (t ≤ 1099511627776)
theorem allT_iff {b r : Int} {l : List (Int × Int)} {k : Nat} : allT b r l k = true ↔ ∀ j, j < k → (shN b r l (j + 1)).1 ≤ 1099511627776 := by
  unfold allT shUp
  simp
def srE (b r : Int) (l : List (Int × Int)) : Int := if bkE b r = 0 then (if trE l = 0 then (if fitB b l = true then (if allT b r l l.length = true then 0 else 6) else 4) else 131) else 130
theorem sr_130 {b r : Int} {l : List (Int × Int)} (h : ¬ bkE b r = 0) : srE b r l = 130 := by unfold srE; rw [if_neg h]
theorem sr_131 {b r : Int} {l : List (Int × Int)} (h : bkE b r = 0) (h1 : ¬ trE l = 0) : srE b r l = 131 := by unfold srE; rw [if_pos h, if_neg h1]
theorem sr_4 {b r : Int} {l : List (Int × Int)} (h : bkE b r = 0) (h1 : trE l = 0) (h2 : ¬ fitB b l = true) : srE b r l = 4 := by unfold srE; rw [if_pos h, if_pos h1, if_neg h2]
theorem sr_6 {b r : Int} {l : List (Int × Int)} (h : bkE b r = 0) (h1 : trE l = 0) (h2 : fitB b l = true) (h3 : ¬ allT b r l l.length = true) : srE b r l = 6 := by unfold srE; rw [if_pos h, if_pos h1, if_pos h2, if_neg h3]
theorem sr_0 {b r : Int} {l : List (Int × Int)} (h : bkE b r = 0) (h1 : trE l = 0) (h2 : fitB b l = true) (h3 : allT b r l l.length = true) : srE b r l = 0 := by unfold srE; rw [if_pos h, if_pos h1, if_pos h2, if_pos h3]
theorem sr_ok {b r : Int} {l : List (Int × Int)} (h : srE b r l = 0) : bkE b r = 0 ∧ trE l = 0 ∧ fitB b l = true ∧ allT b r l l.length = true := by
  unfold srE at h
  split at h
  · split at h
    · split at h
      · split at h
        · rename_i h1 h2 h3 h4; exact ⟨h1, h2, h3, h4⟩
        · cases h
      · cases h
    · cases h
  · cases h
/-- The states are valid as long as the times are. -/
theorem shN_ok {b r : Int} {l : List (Int × Int)} (hb : bkE b r = 0) (ht : trE l = 0) (hf : fitB b l = true) : ∀ k, k ≤ l.length → (∀ j, j < k → (shN b r l (j + 1)).1 ≤ 1099511627776) → skE b r (shN b r l k).1 (shN b r l k).2 = 0
  | 0, _, _ => sk_0 hb (by have := bkE_ok hb; simp only [shN]; omega)
  | k + 1, hk, h => by
    have ih := shN_ok hb ht hf k (by omega) fun j hj => h j (by omega)
    have t := tr_all ht k (by omega)
    have e := el_bd (at_ := (pr l k).1) (s := (pr l k).2) ih (by omega) ⟨by omega, fitB_get hf (by omega)⟩
    have q := h k (by omega)
    have s := sk_bd ih
    simp only [shN] at q ⊢
    exact sk_0 hb (by omega)
end Go.Proofs.Ytaekcgapbkmepaa
