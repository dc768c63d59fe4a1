/-
  Plain facts for the laws of the shaper.
-/
import Derived.Test.YtaekcgapbkmepaaShapeE
namespace Go.Proofs.Ytaekcgapbkmepaa
open Go.RowKit
set_option linter.unusedVariables false
set_option linter.unusedSimpArgs false

theorem agg_to {x y x' y' : Int} (h : x = x') (h' : y = y') {F : FuncId} {vs : Array Value} {w : World} (q : Calls Try.prog F vs w (Ret w (.agg #[.int .i64 x, .int .i64 y]))) : Calls Try.prog F vs w (Ret w (.agg #[.int .i64 x', .int .i64 y'])) := by
  rw [h, h'] at q
  exact q
theorem sum_le {l : List (Int × Int)} {M : Int} (h : ∀ k, k < l.length → (pr l k).2 ≤ M) : ∀ k, k ≤ l.length → sumN l k ≤ M * (k : Int)
  | 0, _ => by simp [sumN]
  | k + 1, hk => by
    have h1 := sum_le h k (by omega)
    have h2 := h k (by omega)
    simp only [sumN]
    rw [show ((k + 1 : Nat) : Int) = (k : Int) + 1 by omega, Int.mul_add, Int.mul_one]
    omega
theorem el3_to {t v e t' v' : Int} (h : e = 0 ∧ t = t' ∧ v = v') {F : FuncId} {vs : Array Value} {w : World} (q : Calls Try.prog F vs w (Ret w (.tuple #[.int .i64 t, .agg #[.int .i64 t, .int .i64 v], .int .i64 e]))) : Calls Try.prog F vs w (Ret w (.tuple #[.int .i64 t', .agg #[.int .i64 t', .int .i64 v'], .int .i64 0])) := by
  rw [h.1, h.2.1, h.2.2] at q
  exact q
theorem late_ok {l : List (Int × Int)} {wt : List Int} {D C M : Int} (ht : trE l = 0) (hM : ∀ k, k < l.length → (pr l k).1 ≤ M) (h0 : 0 ≤ M) (hD : 0 ≤ D) (hC : 0 ≤ C) (hw : ∀ k, 0 ≤ nt wt k ∧ nt wt k ≤ C) (hm : M + C ≤ 1099511627776) : trE (oL l wt D l.length) = 0 ∧ (∀ k, k < l.length → (pr (oL l wt D l.length) k).2 = (pr l k).2) ∧ (∀ k, k < l.length → (pr l k).1 ≤ (pr (oL l wt D l.length) k).1 ∧ (pr (oL l wt D l.length) k).1 ≤ (pr l k).1 + D ∧ (pr (oL l wt D l.length) k).1 ≤ M + C) := by
  have hlen := oL_len l wt D l.length
  have hpr : ∀ i, i < l.length → pr (oL l wt D l.length) i = (oAt l wt D (i + 1), (pr l i).2) := fun i hi => by rw [oL_pr (Nat.le_refl _) i hi, if_pos hi]
  have ln := (trE_ok ht).1
  refine ⟨trE_of (by rw [hlen]; exact ln) fun i hi => ?_, fun k hk => by rw [hpr k hk], fun k hk => ?_⟩
  · rw [hlen] at hi
    have t := tr_all ht i hi
    have c := oAt_cap (wt := wt) (D := D) (M := M) (C := C) hM h0 hC hD hw (i + 1) (by omega)
    have hla : laN (oL l wt D l.length) i = oAt l wt D i := by
      cases i with
      | zero => rfl
      | succ i => simp only [laN]; rw [hpr i (by omega)]
    have u := oAt_up l wt D i
    rw [hpr i hi, hla]
    exact ⟨u, by simp only; omega, t.2.2.1, t.2.2.2.1⟩
  · have b1 := oAt_bd (wt := wt) ht hD (fun k => (hw k).1) k hk
    have c := oAt_cap (wt := wt) (D := D) (M := M) (C := C) hM h0 hC hD hw (k + 1) (by omega)
    rw [hpr k hk]
    exact ⟨b1.1, b1.2, c.2⟩
theorem step_el {b r : Int} {l : List (Int × Int)} {k : Nat} (h : ShOk b r l) (hk : k < l.length) : seE b r (shN b r l k).1 (shN b r l k).2 (pr l k).1 (pr l k).2 = 0 ∧ seT b r (shN b r l k).1 (shN b r l k).2 (pr l k).1 (pr l k).2 = shT b r l k ∧ seL b r (shN b r l k).1 (shN b r l k).2 (pr l k).1 (pr l k).2 = (shN b r l (k + 1)).2 ∧ skE b r (shT b r l k) (shN b r l (k + 1)).2 = 0 := by
  have s := h.step hk
  have t := tr_all h.tr k hk
  have f := fitB_get h.fit hk
  have q := h.T k hk
  have e := se_0 (at_ := (pr l k).1) (s := (pr l k).2) s.1 (by omega) (by omega) (show ¬ 1099511627776 < shT b r l k by omega)
  exact ⟨e.1, e.2.1, e.2.2, shN_ok h.bk h.tr h.fit (k + 1) (by omega) (fun j hj => h.T j (by omega))⟩
end Go.Proofs.Ytaekcgapbkmepaa
