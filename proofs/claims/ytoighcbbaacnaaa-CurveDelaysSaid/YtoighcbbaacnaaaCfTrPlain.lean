/-
  The conforming part of a trace, in plain words.
-/
import Derived.Test.YtoighcbbaacnaaaConfPlain
namespace Go.Proofs.Ytoighcbbaacnaaa
set_option linter.unusedVariables false
theorem cf_nil {b r : Int} (hb : bkE b r = 0) : cfB b r [] = true := (Bkt.nil hb).yes
/-- Behind k frames. -/
structure CfAt (b r : Int) (l : List (Int × Int)) (k : Nat) (out : List (Int × Int)) : Prop where
  eq : cfTr b r l = cfPick b r out (l.drop k)
  cf : cfB b r out = true
  las : laN out out.length ≤ laN l k
  len : out.length ≤ k
  mem : ∀ x ∈ out, ∃ j, j < l.length ∧ x = pr l j
theorem CfAt.zero {b r : Int} {l : List (Int × Int)} (hb : bkE b r = 0) : CfAt b r l 0 [] := ⟨rfl, cf_nil hb, by simp [laN], Nat.le_refl _, fun x h => by simp at h⟩
theorem CfAt.tr {b r : Int} {l out : List (Int × Int)} {k : Nat} (h : CfAt b r l k out) (ht : trE l = 0) (hk : k < l.length) (hl : k < 200) : trE (out ++ [((pr l k).1, (pr l k).2)]) = 0 := by
  have q := tr_all ht k hk
  have := h.las
  have := h.len
  exact trE_snoc (ckE_tr (cf_iff.1 h.cf).1) (by omega) (by omega) (by omega) (by omega)
theorem laN_snoc (out : List (Int × Int)) (x : Int × Int) : laN (out ++ [x]) (out ++ [x]).length = x.1 := by
  rw [List.length_append]
  show (pr (out ++ [x]) out.length).1 = x.1
  rw [pr_app_here]
theorem CfAt.yes {b r : Int} {l out : List (Int × Int)} {k : Nat} (h : CfAt b r l k out) (ht : trE l = 0) (hk : k < l.length) (hc : cfB b r (out ++ [((pr l k).1, (pr l k).2)]) = true) : CfAt b r l (k + 1) (out ++ [((pr l k).1, (pr l k).2)]) := by
  refine ⟨?_, hc, ?_, ?_, ?_⟩
  · rw [h.eq, drop_pr hk, cfPick, if_pos hc]
  · rw [laN_snoc]
    simp [laN]
  · have := h.len
    simp
    omega
  · intro x hx
    rcases List.mem_append.1 hx with hx | hx
    · exact h.mem x hx
    · exact ⟨k, hk, by simpa using hx⟩
theorem CfAt.no {b r : Int} {l out : List (Int × Int)} {k : Nat} (h : CfAt b r l k out) (ht : trE l = 0) (hk : k < l.length) (hc : cfB b r (out ++ [((pr l k).1, (pr l k).2)]) = false) : CfAt b r l (k + 1) out := by
  have q := tr_all ht k hk
  have := h.las
  have := h.len
  refine ⟨?_, h.cf, ?_, by omega, h.mem⟩
  · rw [h.eq, drop_pr hk, cfPick, if_neg (by rw [hc]; decide)]
  · show laN out out.length ≤ (pr l k).1
    omega
theorem CfAt.done {b r : Int} {l out : List (Int × Int)} {k : Nat} (h : CfAt b r l k out) (hk : l.length ≤ k) : cfTr b r l = out := by
  rw [h.eq, List.drop_eq_nil_of_le hk]
  rfl
theorem CfAt.all {b r : Int} {l : List (Int × Int)} (hb : bkE b r = 0) (ht : trE l = 0) : ∀ k, k ≤ l.length → ∃ out, CfAt b r l k out
  | 0, _ => ⟨[], CfAt.zero hb⟩
  | k + 1, hk => by
    obtain ⟨out, h⟩ := CfAt.all hb ht k (by omega)
    cases e : cfB b r (out ++ [((pr l k).1, (pr l k).2)]) with
    | true => exact ⟨_, h.yes ht (by omega) e⟩
    | false => exact ⟨_, h.no ht (by omega) e⟩
theorem CfAt.fin {b r : Int} {l : List (Int × Int)} (hb : bkE b r = 0) (ht : trE l = 0) : CfAt b r l l.length (cfTr b r l) := by
  obtain ⟨out, h⟩ := CfAt.all hb ht l.length (Nat.le_refl _)
  rw [h.done (Nat.le_refl _)]
  exact h
theorem cfTr_cf {b r : Int} {l : List (Int × Int)} (hb : bkE b r = 0) (ht : trE l = 0) : cfB b r (cfTr b r l) = true := (CfAt.fin hb ht).cf
theorem cfTr_le {b r : Int} {l : List (Int × Int)} (hb : bkE b r = 0) (ht : trE l = 0) : (cfTr b r l).length ≤ l.length := (CfAt.fin hb ht).len
theorem cfTr_pr {b r : Int} {l : List (Int × Int)} (hb : bkE b r = 0) (ht : trE l = 0) {p : Int × Int → Prop} (h : ∀ j, j < l.length → p (pr l j)) {k : Nat} (hk : k < (cfTr b r l).length) : p (pr (cfTr b r l) k) := by
  have hm : pr (cfTr b r l) k ∈ cfTr b r l := List.mem_of_getElem? (pr_some hk)
  obtain ⟨j, hj, e⟩ := (CfAt.fin hb ht).mem _ hm
  rw [e]
  exact h j hj
end Go.Proofs.Ytoighcbbaacnaaa
