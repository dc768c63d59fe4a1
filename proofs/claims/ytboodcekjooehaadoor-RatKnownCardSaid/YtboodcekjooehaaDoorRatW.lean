/-
  Contracts of package rat: Check, Make and the reference.
-/
import Derived.Test.YtboodcekjooehaaDoorGcdW
import Derived.Test.YtboodcekjooehaaDoorRatPlain
import Derived.Test.YtboodcekjooehaaDoorFlat
namespace Go.Proofs.YtboodcekjooehaaDoor
open Go.RowKit
set_option linter.unusedVariables false
set_option linter.unusedSimpArgs false

theorem raCheck_w (n d : Int) (w0 : World) (hT : Tab w0) :
    Calls Tryd.prog 12 #[.agg #[.int .i64 n, .int .i64 d]] w0 (Ret w0 (.int .i64 (raE n d))) := by
  refine enterK 29 Tryd.func12 rfl rfl rfl ?_
  intro a hF Q0 hR0 hN0
  have hM := Mem.start w0
  refine wp_seq_k fun K1 hK1 => ?_
  refine wp_region_lit ?_
  refine wl (eN 1 1 (t := 23) (fun b => .pointer (some ⟨b, 0, none⟩)) #[.int .i64 n, .int .i64 d] hF hM (by kernel_rfl) (fun _ => by kernel_rfl) fun bb1 a w hF hM => ?_)
  refine sB 1 [(2, .int .i64 0)] hF (by kernel_rfl) fun a hF => ?_
  refine wpList_nil ?_
  refine hK1 _ _ ?_
  refine wp_seq_k fun K2 hK2 => ?_
  refine wp_seq_k fun K3 hK3 => ?_
  by_cases hz1 : d < 1
  · skip
    refine wp_region_lit ?_
    refine sB 1 [(3, .pointer (some ⟨bb1, 1, none⟩))] hF (by kernel_rfl) fun a hF => ?_
    refine wl (eL 4 1 1 (v := .int .i64 d) hF hM (by kernel_rfl) rfl rfl (by kernel_rfl) (by kernel_rfl) fun a w hF hM => ?_)
    refine wl (eP 5 (v0 := .bool (decide (d < 1))) (v := .bool true) hF (by kernel_rfl) (fun _ => by kernel_rfl) (bT hz1) fun a hF => ?_)
    refine sB 23 [(6, .bool true), (7, undef), (8, undef), (9, undef), (10, .bool true), (11, .bool true), (12, undef), (13, undef), (14, undef), (15, .bool true), (16, .bool true), (17, undef), (18, undef), (19, undef), (20, .bool true), (21, .bool true), (22, undef), (23, undef), (24, undef), (25, undef), (26, undef), (27, undef), (28, .bool true)] hF (by kernel_rfl) fun a hF => ?_
    refine wpList_nil ?_
    refine hK3 _ _ ?_
    refine cT hF (by kernel_rfl) (by kernel_rfl) ?_
    refine wp_seq_k fun K4 hK4 => ?_
    refine wp_region_lit ?_
    refine sB 1 [(2, .int .i64 120)] hF (by kernel_rfl) fun a hF => ?_
    refine wpList_nil ?_
    refine hK4 _ _ ?_
    refine wp_ret ?_
    refine hR0 _ _ ?_
    refine ret_of hF hM (.tmp rfl (.nil)) ?_
    exact ⟨ret_int (by exact (raE_not (fun q => by first | omega | (have z := gcV_yes (a := n) (b := d) (by unfold inR; omega); omega))).symm), hM.bel⟩
  · skip
    by_cases hz2 : 1073741824 < d
    · skip
      refine wp_region_lit ?_
      refine sB 1 [(3, .pointer (some ⟨bb1, 1, none⟩))] hF (by kernel_rfl) fun a hF => ?_
      refine wl (eL 4 1 1 (v := .int .i64 d) hF hM (by kernel_rfl) rfl rfl (by kernel_rfl) (by kernel_rfl) fun a w hF hM => ?_)
      refine wl (eP 5 (v0 := .bool (decide (d < 1))) (v := .bool false) hF (by kernel_rfl) (fun _ => by kernel_rfl) (bF hz1) fun a hF => ?_)
      refine sB 2 [(6, .bool false), (7, .pointer (some ⟨bb1, 1, none⟩))] hF (by kernel_rfl) fun a hF => ?_
      refine wl (eL 8 1 1 (v := .int .i64 d) hF hM (by kernel_rfl) rfl rfl (by kernel_rfl) (by kernel_rfl) fun a w hF hM => ?_)
      refine wl (eP 9 (v0 := .bool (decide (1073741824 < d))) (v := .bool true) hF (by kernel_rfl) (fun _ => by kernel_rfl) (bT hz2) fun a hF => ?_)
      refine sB 19 [(10, .bool true), (11, .bool true), (12, undef), (13, undef), (14, undef), (15, .bool true), (16, .bool true), (17, undef), (18, undef), (19, undef), (20, .bool true), (21, .bool true), (22, undef), (23, undef), (24, undef), (25, undef), (26, undef), (27, undef), (28, .bool true)] hF (by kernel_rfl) fun a hF => ?_
      refine wpList_nil ?_
      refine hK3 _ _ ?_
      refine cT hF (by kernel_rfl) (by kernel_rfl) ?_
      refine wp_seq_k fun K5 hK5 => ?_
      refine wp_region_lit ?_
      refine sB 1 [(2, .int .i64 120)] hF (by kernel_rfl) fun a hF => ?_
      refine wpList_nil ?_
      refine hK5 _ _ ?_
      refine wp_ret ?_
      refine hR0 _ _ ?_
      refine ret_of hF hM (.tmp rfl (.nil)) ?_
      exact ⟨ret_int (by exact (raE_not (fun q => by first | omega | (have z := gcV_yes (a := n) (b := d) (by unfold inR; omega); omega))).symm), hM.bel⟩
    · skip
      by_cases hz3 : n < -1073741824
      · skip
        refine wp_region_lit ?_
        refine sB 1 [(3, .pointer (some ⟨bb1, 1, none⟩))] hF (by kernel_rfl) fun a hF => ?_
        refine wl (eL 4 1 1 (v := .int .i64 d) hF hM (by kernel_rfl) rfl rfl (by kernel_rfl) (by kernel_rfl) fun a w hF hM => ?_)
        refine wl (eP 5 (v0 := .bool (decide (d < 1))) (v := .bool false) hF (by kernel_rfl) (fun _ => by kernel_rfl) (bF hz1) fun a hF => ?_)
        refine sB 2 [(6, .bool false), (7, .pointer (some ⟨bb1, 1, none⟩))] hF (by kernel_rfl) fun a hF => ?_
        refine wl (eL 8 1 1 (v := .int .i64 d) hF hM (by kernel_rfl) rfl rfl (by kernel_rfl) (by kernel_rfl) fun a w hF hM => ?_)
        refine wl (eP 9 (v0 := .bool (decide (1073741824 < d))) (v := .bool false) hF (by kernel_rfl) (fun _ => by kernel_rfl) (bF hz2) fun a hF => ?_)
        refine sB 3 [(10, .bool false), (11, .bool false), (12, .pointer (some ⟨bb1, 0, none⟩))] hF (by kernel_rfl) fun a hF => ?_
        refine wl (eL 13 1 0 (v := .int .i64 n) hF hM (by kernel_rfl) rfl rfl (by kernel_rfl) (by kernel_rfl) fun a w hF hM => ?_)
        refine wl (eP 14 (v0 := .bool (decide (n < -1073741824))) (v := .bool true) hF (by kernel_rfl) (fun _ => by kernel_rfl) (bT hz3) fun a hF => ?_)
        refine sB 14 [(15, .bool true), (16, .bool true), (17, undef), (18, undef), (19, undef), (20, .bool true), (21, .bool true), (22, undef), (23, undef), (24, undef), (25, undef), (26, undef), (27, undef), (28, .bool true)] hF (by kernel_rfl) fun a hF => ?_
        refine wpList_nil ?_
        refine hK3 _ _ ?_
        refine cT hF (by kernel_rfl) (by kernel_rfl) ?_
        refine wp_seq_k fun K6 hK6 => ?_
        refine wp_region_lit ?_
        refine sB 1 [(2, .int .i64 120)] hF (by kernel_rfl) fun a hF => ?_
        refine wpList_nil ?_
        refine hK6 _ _ ?_
        refine wp_ret ?_
        refine hR0 _ _ ?_
        refine ret_of hF hM (.tmp rfl (.nil)) ?_
        exact ⟨ret_int (by exact (raE_not (fun q => by first | omega | (have z := gcV_yes (a := n) (b := d) (by unfold inR; omega); omega))).symm), hM.bel⟩
      · skip
        by_cases hz4 : 1073741824 < n
        · skip
          refine wp_region_lit ?_
          refine sB 1 [(3, .pointer (some ⟨bb1, 1, none⟩))] hF (by kernel_rfl) fun a hF => ?_
          refine wl (eL 4 1 1 (v := .int .i64 d) hF hM (by kernel_rfl) rfl rfl (by kernel_rfl) (by kernel_rfl) fun a w hF hM => ?_)
          refine wl (eP 5 (v0 := .bool (decide (d < 1))) (v := .bool false) hF (by kernel_rfl) (fun _ => by kernel_rfl) (bF hz1) fun a hF => ?_)
          refine sB 2 [(6, .bool false), (7, .pointer (some ⟨bb1, 1, none⟩))] hF (by kernel_rfl) fun a hF => ?_
          refine wl (eL 8 1 1 (v := .int .i64 d) hF hM (by kernel_rfl) rfl rfl (by kernel_rfl) (by kernel_rfl) fun a w hF hM => ?_)
          refine wl (eP 9 (v0 := .bool (decide (1073741824 < d))) (v := .bool false) hF (by kernel_rfl) (fun _ => by kernel_rfl) (bF hz2) fun a hF => ?_)
          refine sB 3 [(10, .bool false), (11, .bool false), (12, .pointer (some ⟨bb1, 0, none⟩))] hF (by kernel_rfl) fun a hF => ?_
          refine wl (eL 13 1 0 (v := .int .i64 n) hF hM (by kernel_rfl) rfl rfl (by kernel_rfl) (by kernel_rfl) fun a w hF hM => ?_)
          refine wl (eP 14 (v0 := .bool (decide (n < -1073741824))) (v := .bool false) hF (by kernel_rfl) (fun _ => by kernel_rfl) (bF hz3) fun a hF => ?_)
          refine sB 3 [(15, .bool false), (16, .bool false), (17, .pointer (some ⟨bb1, 0, none⟩))] hF (by kernel_rfl) fun a hF => ?_
          refine wl (eL 18 1 0 (v := .int .i64 n) hF hM (by kernel_rfl) rfl rfl (by kernel_rfl) (by kernel_rfl) fun a w hF hM => ?_)
          refine wl (eP 19 (v0 := .bool (decide (1073741824 < n))) (v := .bool true) hF (by kernel_rfl) (fun _ => by kernel_rfl) (bT hz4) fun a hF => ?_)
          refine sB 9 [(20, .bool true), (21, .bool true), (22, undef), (23, undef), (24, undef), (25, undef), (26, undef), (27, undef), (28, .bool true)] hF (by kernel_rfl) fun a hF => ?_
          refine wpList_nil ?_
          refine hK3 _ _ ?_
          refine cT hF (by kernel_rfl) (by kernel_rfl) ?_
          refine wp_seq_k fun K7 hK7 => ?_
          refine wp_region_lit ?_
          refine sB 1 [(2, .int .i64 120)] hF (by kernel_rfl) fun a hF => ?_
          refine wpList_nil ?_
          refine hK7 _ _ ?_
          refine wp_ret ?_
          refine hR0 _ _ ?_
          refine ret_of hF hM (.tmp rfl (.nil)) ?_
          exact ⟨ret_int (by exact (raE_not (fun q => by first | omega | (have z := gcV_yes (a := n) (b := d) (by unfold inR; omega); omega))).symm), hM.bel⟩
        · skip
          refine wp_region_lit ?_
          refine sB 1 [(3, .pointer (some ⟨bb1, 1, none⟩))] hF (by kernel_rfl) fun a hF => ?_
          refine wl (eL 4 1 1 (v := .int .i64 d) hF hM (by kernel_rfl) rfl rfl (by kernel_rfl) (by kernel_rfl) fun a w hF hM => ?_)
          refine wl (eP 5 (v0 := .bool (decide (d < 1))) (v := .bool false) hF (by kernel_rfl) (fun _ => by kernel_rfl) (bF hz1) fun a hF => ?_)
          refine sB 2 [(6, .bool false), (7, .pointer (some ⟨bb1, 1, none⟩))] hF (by kernel_rfl) fun a hF => ?_
          refine wl (eL 8 1 1 (v := .int .i64 d) hF hM (by kernel_rfl) rfl rfl (by kernel_rfl) (by kernel_rfl) fun a w hF hM => ?_)
          refine wl (eP 9 (v0 := .bool (decide (1073741824 < d))) (v := .bool false) hF (by kernel_rfl) (fun _ => by kernel_rfl) (bF hz2) fun a hF => ?_)
          refine sB 3 [(10, .bool false), (11, .bool false), (12, .pointer (some ⟨bb1, 0, none⟩))] hF (by kernel_rfl) fun a hF => ?_
          refine wl (eL 13 1 0 (v := .int .i64 n) hF hM (by kernel_rfl) rfl rfl (by kernel_rfl) (by kernel_rfl) fun a w hF hM => ?_)
          refine wl (eP 14 (v0 := .bool (decide (n < -1073741824))) (v := .bool false) hF (by kernel_rfl) (fun _ => by kernel_rfl) (bF hz3) fun a hF => ?_)
          refine sB 3 [(15, .bool false), (16, .bool false), (17, .pointer (some ⟨bb1, 0, none⟩))] hF (by kernel_rfl) fun a hF => ?_
          refine wl (eL 18 1 0 (v := .int .i64 n) hF hM (by kernel_rfl) rfl rfl (by kernel_rfl) (by kernel_rfl) fun a w hF hM => ?_)
          refine wl (eP 19 (v0 := .bool (decide (1073741824 < n))) (v := .bool false) hF (by kernel_rfl) (fun _ => by kernel_rfl) (bF hz4) fun a hF => ?_)
          refine sB 3 [(20, .bool false), (21, .bool false), (22, .pointer (some ⟨bb1, 0, none⟩))] hF (by kernel_rfl) fun a hF => ?_
          refine wl (eL 23 1 0 (v := .int .i64 n) hF hM (by kernel_rfl) rfl rfl (by kernel_rfl) (by kernel_rfl) fun a w hF hM => ?_)
          refine sB 1 [(24, .pointer (some ⟨bb1, 1, none⟩))] hF (by kernel_rfl) fun a hF => ?_
          refine wl (eL 25 1 1 (v := .int .i64 d) hF hM (by kernel_rfl) rfl rfl (by kernel_rfl) (by kernel_rfl) fun a w hF hM => ?_)
          refine wl (eM 26 (v := .int .i64 (gcV n d)) hF hM (by kernel_rfl) (yld_call (f := 41) (args := #[.int .i64 n, .int .i64 d]) hF (by kernel_rfl) (fun _ => by kernel_rfl) (fun w hM => gcd_w n d w (hT.below (Nat.le_refl _) hM.bel))) fun a w hF hM => ?_)
          have := gcV_bd n d
          refine sB 2 [(27, .bool (!decide (gcV n d = 1))), (28, .bool (!decide (gcV n d = 1)))] hF (by kernel_rfl) fun a hF => ?_
          refine wpList_nil ?_
          refine hK3 _ _ ?_
          by_cases hz5 : gcV n d = 1
          · skip
            replace hF := hF.c hF (i := 27) (v := .bool false) rfl (nT hz5)
            replace hF := hF.c hF (i := 28) (v := .bool false) rfl (nT hz5)
            refine cF hF (by kernel_rfl) (by kernel_rfl) ?_
            refine wp_skip ?_
            refine hK2 _ _ ?_
            refine wp_seq_k fun K8 hK8 => ?_
            refine wp_region_lit ?_
            refine sB 1 [(2, .int .i64 0)] hF (by kernel_rfl) fun a hF => ?_
            refine wpList_nil ?_
            refine hK8 _ _ ?_
            refine wp_ret ?_
            refine hR0 _ _ ?_
            refine ret_of hF hM (.tmp rfl (.nil)) ?_
            exact ⟨ret_int (by exact (raE_yes ⟨by omega, by omega, by omega, by omega, by have q := gcV_yes (a := n) (b := d) (by unfold inR; omega); omega⟩).symm), hM.bel⟩
          · skip
            replace hF := hF.c hF (i := 27) (v := .bool true) rfl (nF hz5)
            replace hF := hF.c hF (i := 28) (v := .bool true) rfl (nF hz5)
            refine cT hF (by kernel_rfl) (by kernel_rfl) ?_
            refine wp_seq_k fun K9 hK9 => ?_
            refine wp_region_lit ?_
            refine sB 1 [(2, .int .i64 120)] hF (by kernel_rfl) fun a hF => ?_
            refine wpList_nil ?_
            refine hK9 _ _ ?_
            refine wp_ret ?_
            refine hR0 _ _ ?_
            refine ret_of hF hM (.tmp rfl (.nil)) ?_
            exact ⟨ret_int (by exact (raE_not (fun q => by first | omega | (have z := gcV_yes (a := n) (b := d) (by unfold inR; omega); omega))).symm), hM.bel⟩

theorem ra_next {l : List (Int × Int)} {k : Nat} (h : ∀ j, j < k → raE (pr l j).1 (pr l j).2 = 0) (hk : raE (pr l k).1 (pr l k).2 = 0) : ∀ j, j < k + 1 → raE (pr l j).1 (pr l j).2 = 0 := fun j hj => by
  by_cases e : j = k
  · subst e; exact hk
  · exact h j (by omega)
theorem ra_two {a b c d : Int} (h1 : raE a b = 0) (h2 : raE c d = 0) : ∀ x ∈ [(a, b), (c, d)], raE x.1 x.2 = 0 := by
  intro x hx
  rcases List.mem_cons.1 hx with rfl | hx
  · exact h1
  · rcases List.mem_cons.1 hx with rfl | hx
    · exact h2
    · cases hx
theorem ra_notwo {a b c d : Int} (h : ¬ (raE a b = 0 ∧ raE c d = 0)) : ¬ ∀ x ∈ [(a, b), (c, d)], raE x.1 x.2 = 0 := fun z => h ⟨z (a, b) (by simp), z (c, d) (by simp)⟩
theorem ra_mem {l : List (Int × Int)} (h : ∀ x ∈ l, raE x.1 x.2 = 0) {k : Nat} (hk : k < l.length) : raE (pr l k).1 (pr l k).2 = 0 := h _ (List.mem_of_getElem? (pr_some hk))
theorem ra_all {l : List (Int × Int)} {k : Nat} (h : ∀ j, j < k → raE (pr l j).1 (pr l j).2 = 0) (hk : l.length ≤ k) : ∀ x ∈ l, raE x.1 x.2 = 0 := fun x hx => by
  obtain ⟨j, hj, e⟩ := List.mem_iff_getElem.1 hx
  have := h j (by omega)
  have e2 := pr_some hj
  rw [List.getElem?_eq_getElem hj, e] at e2
  rw [Option.some.inj e2]
  exact this
theorem checkAll_yes (A : Option Addr) (l : List (Int × Int)) (c : Nat) (w0 : World) (hA : Ro w0 A (flat2 l)) (hm : l.length ≤ 1000000) (hT : Tab w0) (h : ∀ x ∈ l, raE x.1 x.2 = 0) :
    Calls Tryd.prog 49 #[.slice A l.length c] w0 (Ret w0 (.int .i64 0)) := by
  refine enterK 18 Tryd.func49 rfl rfl rfl ?_
  intro a hF Q0 hR0 hN0
  have hM := Mem.start w0
  replace hM := hM.addOld 1 hA (Nat.le_refl _)
  refine wp_seq_k fun K1 hK1 => ?_
  refine wp_region_lit ?_
  refine sB 1 [(2, .int .i64 0)] hF (by kernel_rfl) fun a hF => ?_
  refine wpList_nil ?_
  refine hK1 _ _ ?_
  refine wp_seq_k fun K2 hK2 => ?_
  refine wp_seq_k fun K3 hK3 => ?_
  refine wp_region_lit ?_
  refine sB 3 [(6, .slice A l.length c), (7, .int .i64 (l.length : Int)), (8, .int .i64 0)] hF (by kernel_rfl) fun a hF => ?_
  refine wpList_nil ?_
  refine hK3 _ _ ?_
  refine wp_block ?_
  refine wp_loop_k (G := Nat) (fun gg a w => Fr 18 [(8, some (.int .i64 (gg : Int))), (6, some (.slice A l.length c)), (7, some (.int .i64 (l.length : Int)))] a ∧ Mem w0.heap.size w0 [(1, some (.ro A (flat2 l)))] w ∧ ((gg : Int) ≤ (l.length : Int)) ∧ (∀ j, j < gg → raE (pr l j).1 (pr l j).2 = 0)) (fun gg => l.length - gg) (0) ?_ ?_
  · refine ⟨((((Fr.nil hF).c hF (i := 7) rfl rfl).c hF (i := 6) rfl rfl).c hF (i := 8) rfl (vi (show (0 : Int) = (0 : Int) from by omega))), (hM.sub (Sub.nil.c (k := 1) rfl rfl)), (show (0 : Int) ≤ (l.length : Int) from by omega), (show ∀ j, j < 0 → raE (pr l j).1 (pr l j).2 = 0 from by exact fun j hj => by omega)⟩
  · intro gg a w hI
    intro K4 hK4
    obtain ⟨k, rfl⟩ : ∃ x, x = gg := ⟨_, rfl⟩
    try dsimp only at hI hK4
    obtain ⟨hF, hM, hz1, hz2⟩ := hI
    refine wp_seq_k fun K5 hK5 => ?_
    refine wp_region_lit ?_
    refine sB 1 [(9, .bool (decide ((k : Int) < (l.length : Int))))] hF (by kernel_rfl) fun a hF => ?_
    refine wpList_nil ?_
    refine hK5 _ _ ?_
    refine wp_seq_k fun K6 hK6 => ?_
    by_cases hz3 : (k : Int) < (l.length : Int)
    · skip
      replace hF := hF.c hF (i := 9) (v := .bool true) rfl (bT hz3)
      refine cT hF (by kernel_rfl) (by kernel_rfl) ?_
      refine wp_skip ?_
      refine hK6 _ _ ?_
      refine wp_seq_k fun K7 hK7 => ?_
      refine wp_block ?_
      refine wp_seq_k fun K8 hK8 => ?_
      refine wp_region_lit ?_
      refine wl (eM 10 (v := .pointer (some (ea A (k * 2)))) hF hM (by kernel_rfl) (yld_ix (kd := .i64) (e := 23) (len := l.length) (cap := c) (i := (k : Int)) (size := 2) (A := A) hF rfl (by kernel_rfl) (by kernel_rfl) (by kernel_rfl) (by kernel_rfl) (by kernel_rfl) (roK 1 rfl) (by omega) (by omega) (by rw [flat2_length]; omega)) fun a w hF hM => ?_)
      refine wl (eM 11 (v := .agg #[.int .i64 (pr l k).1, .int .i64 (pr l k).2]) hF hM (by kernel_rfl) (yld_roM (A := A) (j := k * 2) (us := [.int .i64 (pr l k).1, .int .i64 (pr l k).2]) hF rfl (by kernel_rfl) (by kernel_rfl) (roK 1 rfl) (by kernel_rfl) rfl (pr_both (k := k) (by omega) (by omega))) fun a w hF hM => ?_)
      refine wl (eN 4 2 (t := 23) (fun b => .pointer (some ⟨b, 0, none⟩)) #[.int .i64 0, .int .i64 0] hF hM (by kernel_rfl) (fun _ => by kernel_rfl) fun bb1 a w hF hM => ?_)
      refine wl (sStore (i := 2) (off := 0) (cs' := #[.int .i64 (pr l k).1, .int .i64 (pr l k).2]) hF hM (by kernel_rfl) rfl rfl (by kernel_rfl) (by kernel_rfl) rfl (by kernel_rfl) fun w hM => ?_)
      refine wpList_nil ?_
      refine hK8 _ _ ?_
      refine wp_seq_k fun K9 hK9 => ?_
      refine wp_region_lit ?_
      refine wl (eL 12 2 0 (v := .agg #[.int .i64 (pr l k).1, .int .i64 (pr l k).2]) hF hM (by kernel_rfl) rfl rfl (by kernel_rfl) (by kernel_rfl) fun a w hF hM => ?_)
      refine wl (eM 13 (v := .int .i64 (raE (pr l k).1 (pr l k).2)) hF hM (by kernel_rfl) (yld_call (f := 12) (args := #[.agg #[.int .i64 (pr l k).1, .int .i64 (pr l k).2]]) hF (by kernel_rfl) (fun _ => by kernel_rfl) (fun w hM => raCheck_w (pr l k).1 (pr l k).2 w (hT.below (Nat.le_refl _) hM.bel))) fun a w hF hM => ?_)
      refine sB 1 [(5, .int .i64 (raE (pr l k).1 (pr l k).2))] hF (by kernel_rfl) fun a hF => ?_
      refine wpList_nil ?_
      refine hK9 _ _ ?_
      refine wp_seq_k fun K10 hK10 => ?_
      refine wp_region_lit ?_
      refine sB 2 [(14, .int .i64 (raE (pr l k).1 (pr l k).2)), (15, .bool (!decide (raE (pr l k).1 (pr l k).2 = 0)))] hF (by kernel_rfl) fun a hF => ?_
      refine wpList_nil ?_
      refine hK10 _ _ ?_
      by_cases hz4 : raE (pr l k).1 (pr l k).2 = 0
      · skip
        have hz5 := raE_ok hz4
        replace hF := hF.c hF (i := 15) (v := .bool false) rfl (nT hz4)
        refine cF hF (by kernel_rfl) (by kernel_rfl) ?_
        refine wp_skip ?_
        refine hK7 _ _ ?_
        refine wp_region_lit ?_
        refine wl (eP 17 (v0 := .int .i64 (IntKind.i64.wrap ((k : Int) + 1))) (v := .int .i64 ((k : Int) + 1)) hF (by kernel_rfl) (fun _ => by kernel_rfl) (wi (by omega)) fun a hF => ?_)
        refine sB 1 [(8, .int .i64 ((k : Int) + 1))] hF (by kernel_rfl) fun a hF => ?_
        refine wpList_nil ?_
        refine hK4 _ _ ⟨(k + 1), ⟨((((Fr.nil hF).c hF (i := 7) rfl rfl).c hF (i := 6) rfl rfl).c hF (i := 8) rfl (vi (show ((k : Int) + 1 : Int) = ((k + 1) : Int) from by omega))), (hM.sub (Sub.nil.c (k := 1) rfl rfl)), (show ((k + 1) : Int) ≤ (l.length : Int) from by omega), (show ∀ j, j < (k + 1) → raE (pr l j).1 (pr l j).2 = 0 from by exact ra_next (by assumption) (by assumption))⟩, (show l.length - (k + 1) < l.length - k from by omega)⟩
      · skip
        replace hF := hF.c hF (i := 15) (v := .bool true) rfl (nF hz4)
        refine cT hF (by kernel_rfl) (by kernel_rfl) ?_
        refine wp_seq_k fun K11 hK11 => ?_
        refine wp_region_lit ?_
        refine sB 2 [(16, .int .i64 (raE (pr l k).1 (pr l k).2)), (2, .int .i64 (raE (pr l k).1 (pr l k).2))] hF (by kernel_rfl) fun a hF => ?_
        refine wpList_nil ?_
        refine hK11 _ _ ?_
        refine wp_ret ?_
        refine hR0 _ _ ?_
        refine ret_of hF hM (.tmp rfl (.nil)) ?_
        exact absurd (ra_mem h (k := k) (by omega)) hz4
    · skip
      replace hF := hF.c hF (i := 9) (v := .bool false) rfl (bF hz3)
      refine cF hF (by kernel_rfl) (by kernel_rfl) ?_
      refine wp_exit ?_
      refine hK2 _ _ ?_
      refine wp_seq_k fun K12 hK12 => ?_
      refine wp_region_lit ?_
      refine sB 1 [(2, .int .i64 0)] hF (by kernel_rfl) fun a hF => ?_
      refine wpList_nil ?_
      refine hK12 _ _ ?_
      refine wp_ret ?_
      refine hR0 _ _ ?_
      refine ret_of hF hM (.tmp rfl (.nil)) ?_
      exact ⟨rfl, hM.bel⟩

theorem checkAll_no (A : Option Addr) (l : List (Int × Int)) (c : Nat) (w0 : World) (hA : Ro w0 A (flat2 l)) (hm : l.length ≤ 1000000) (hT : Tab w0) (h : ¬ ∀ x ∈ l, raE x.1 x.2 = 0) :
    Calls Tryd.prog 49 #[.slice A l.length c] w0 (Ret w0 (.int .i64 120)) := by
  refine enterK 18 Tryd.func49 rfl rfl rfl ?_
  intro a hF Q0 hR0 hN0
  have hM := Mem.start w0
  replace hM := hM.addOld 1 hA (Nat.le_refl _)
  refine wp_seq_k fun K1 hK1 => ?_
  refine wp_region_lit ?_
  refine sB 1 [(2, .int .i64 0)] hF (by kernel_rfl) fun a hF => ?_
  refine wpList_nil ?_
  refine hK1 _ _ ?_
  refine wp_seq_k fun K2 hK2 => ?_
  refine wp_seq_k fun K3 hK3 => ?_
  refine wp_region_lit ?_
  refine sB 3 [(6, .slice A l.length c), (7, .int .i64 (l.length : Int)), (8, .int .i64 0)] hF (by kernel_rfl) fun a hF => ?_
  refine wpList_nil ?_
  refine hK3 _ _ ?_
  refine wp_block ?_
  refine wp_loop_k (G := Nat) (fun gg a w => Fr 18 [(8, some (.int .i64 (gg : Int))), (6, some (.slice A l.length c)), (7, some (.int .i64 (l.length : Int)))] a ∧ Mem w0.heap.size w0 [(1, some (.ro A (flat2 l)))] w ∧ ((gg : Int) ≤ (l.length : Int)) ∧ (∀ j, j < gg → raE (pr l j).1 (pr l j).2 = 0)) (fun gg => l.length - gg) (0) ?_ ?_
  · refine ⟨((((Fr.nil hF).c hF (i := 7) rfl rfl).c hF (i := 6) rfl rfl).c hF (i := 8) rfl (vi (show (0 : Int) = (0 : Int) from by omega))), (hM.sub (Sub.nil.c (k := 1) rfl rfl)), (show (0 : Int) ≤ (l.length : Int) from by omega), (show ∀ j, j < 0 → raE (pr l j).1 (pr l j).2 = 0 from by exact fun j hj => by omega)⟩
  · intro gg a w hI
    intro K4 hK4
    obtain ⟨k, rfl⟩ : ∃ x, x = gg := ⟨_, rfl⟩
    try dsimp only at hI hK4
    obtain ⟨hF, hM, hz1, hz2⟩ := hI
    refine wp_seq_k fun K5 hK5 => ?_
    refine wp_region_lit ?_
    refine sB 1 [(9, .bool (decide ((k : Int) < (l.length : Int))))] hF (by kernel_rfl) fun a hF => ?_
    refine wpList_nil ?_
    refine hK5 _ _ ?_
    refine wp_seq_k fun K6 hK6 => ?_
    by_cases hz3 : (k : Int) < (l.length : Int)
    · skip
      replace hF := hF.c hF (i := 9) (v := .bool true) rfl (bT hz3)
      refine cT hF (by kernel_rfl) (by kernel_rfl) ?_
      refine wp_skip ?_
      refine hK6 _ _ ?_
      refine wp_seq_k fun K7 hK7 => ?_
      refine wp_block ?_
      refine wp_seq_k fun K8 hK8 => ?_
      refine wp_region_lit ?_
      refine wl (eM 10 (v := .pointer (some (ea A (k * 2)))) hF hM (by kernel_rfl) (yld_ix (kd := .i64) (e := 23) (len := l.length) (cap := c) (i := (k : Int)) (size := 2) (A := A) hF rfl (by kernel_rfl) (by kernel_rfl) (by kernel_rfl) (by kernel_rfl) (by kernel_rfl) (roK 1 rfl) (by omega) (by omega) (by rw [flat2_length]; omega)) fun a w hF hM => ?_)
      refine wl (eM 11 (v := .agg #[.int .i64 (pr l k).1, .int .i64 (pr l k).2]) hF hM (by kernel_rfl) (yld_roM (A := A) (j := k * 2) (us := [.int .i64 (pr l k).1, .int .i64 (pr l k).2]) hF rfl (by kernel_rfl) (by kernel_rfl) (roK 1 rfl) (by kernel_rfl) rfl (pr_both (k := k) (by omega) (by omega))) fun a w hF hM => ?_)
      refine wl (eN 4 2 (t := 23) (fun b => .pointer (some ⟨b, 0, none⟩)) #[.int .i64 0, .int .i64 0] hF hM (by kernel_rfl) (fun _ => by kernel_rfl) fun bb1 a w hF hM => ?_)
      refine wl (sStore (i := 2) (off := 0) (cs' := #[.int .i64 (pr l k).1, .int .i64 (pr l k).2]) hF hM (by kernel_rfl) rfl rfl (by kernel_rfl) (by kernel_rfl) rfl (by kernel_rfl) fun w hM => ?_)
      refine wpList_nil ?_
      refine hK8 _ _ ?_
      refine wp_seq_k fun K9 hK9 => ?_
      refine wp_region_lit ?_
      refine wl (eL 12 2 0 (v := .agg #[.int .i64 (pr l k).1, .int .i64 (pr l k).2]) hF hM (by kernel_rfl) rfl rfl (by kernel_rfl) (by kernel_rfl) fun a w hF hM => ?_)
      refine wl (eM 13 (v := .int .i64 (raE (pr l k).1 (pr l k).2)) hF hM (by kernel_rfl) (yld_call (f := 12) (args := #[.agg #[.int .i64 (pr l k).1, .int .i64 (pr l k).2]]) hF (by kernel_rfl) (fun _ => by kernel_rfl) (fun w hM => raCheck_w (pr l k).1 (pr l k).2 w (hT.below (Nat.le_refl _) hM.bel))) fun a w hF hM => ?_)
      refine sB 1 [(5, .int .i64 (raE (pr l k).1 (pr l k).2))] hF (by kernel_rfl) fun a hF => ?_
      refine wpList_nil ?_
      refine hK9 _ _ ?_
      refine wp_seq_k fun K10 hK10 => ?_
      refine wp_region_lit ?_
      refine sB 2 [(14, .int .i64 (raE (pr l k).1 (pr l k).2)), (15, .bool (!decide (raE (pr l k).1 (pr l k).2 = 0)))] hF (by kernel_rfl) fun a hF => ?_
      refine wpList_nil ?_
      refine hK10 _ _ ?_
      by_cases hz4 : raE (pr l k).1 (pr l k).2 = 0
      · skip
        have hz5 := raE_ok hz4
        replace hF := hF.c hF (i := 15) (v := .bool false) rfl (nT hz4)
        refine cF hF (by kernel_rfl) (by kernel_rfl) ?_
        refine wp_skip ?_
        refine hK7 _ _ ?_
        refine wp_region_lit ?_
        refine wl (eP 17 (v0 := .int .i64 (IntKind.i64.wrap ((k : Int) + 1))) (v := .int .i64 ((k : Int) + 1)) hF (by kernel_rfl) (fun _ => by kernel_rfl) (wi (by omega)) fun a hF => ?_)
        refine sB 1 [(8, .int .i64 ((k : Int) + 1))] hF (by kernel_rfl) fun a hF => ?_
        refine wpList_nil ?_
        refine hK4 _ _ ⟨(k + 1), ⟨((((Fr.nil hF).c hF (i := 7) rfl rfl).c hF (i := 6) rfl rfl).c hF (i := 8) rfl (vi (show ((k : Int) + 1 : Int) = ((k + 1) : Int) from by omega))), (hM.sub (Sub.nil.c (k := 1) rfl rfl)), (show ((k + 1) : Int) ≤ (l.length : Int) from by omega), (show ∀ j, j < (k + 1) → raE (pr l j).1 (pr l j).2 = 0 from by exact ra_next (by assumption) (by assumption))⟩, (show l.length - (k + 1) < l.length - k from by omega)⟩
      · skip
        replace hF := hF.c hF (i := 15) (v := .bool true) rfl (nF hz4)
        refine cT hF (by kernel_rfl) (by kernel_rfl) ?_
        refine wp_seq_k fun K11 hK11 => ?_
        refine wp_region_lit ?_
        refine sB 2 [(16, .int .i64 (raE (pr l k).1 (pr l k).2)), (2, .int .i64 (raE (pr l k).1 (pr l k).2))] hF (by kernel_rfl) fun a hF => ?_
        refine wpList_nil ?_
        refine hK11 _ _ ?_
        refine wp_ret ?_
        refine hR0 _ _ ?_
        refine ret_of hF hM (.tmp rfl (.nil)) ?_
        exact ⟨ret_int (raE_no hz4), hM.bel⟩
    · skip
      replace hF := hF.c hF (i := 9) (v := .bool false) rfl (bF hz3)
      refine cF hF (by kernel_rfl) (by kernel_rfl) ?_
      refine wp_exit ?_
      refine hK2 _ _ ?_
      refine wp_seq_k fun K12 hK12 => ?_
      refine wp_region_lit ?_
      refine sB 1 [(2, .int .i64 0)] hF (by kernel_rfl) fun a hF => ?_
      refine wpList_nil ?_
      refine hK12 _ _ ?_
      refine wp_ret ?_
      refine hR0 _ _ ?_
      refine ret_of hF hM (.tmp rfl (.nil)) ?_
      exact absurd (ra_all (k := k) (by assumption) (by omega)) h

theorem divisor_w (n d : Int) (w0 : World) (h : -4611686018427387904 ≤ n ∧ n ≤ 4611686018427387904 ∧ -4611686018427387904 ≤ d ∧ d ≤ 4611686018427387904) :
    Calls Tryd.prog 37 #[.int .i64 n, .int .i64 d] w0 (Ret w0 (.int .i64 (rg n d))) := by
  refine enterK 16 Tryd.func37 rfl rfl rfl ?_
  intro a hF Q0 hR0 hN0
  have hM := Mem.start w0
  refine wp_seq_k fun K1 hK1 => ?_
  refine wp_region_lit ?_
  refine sB 1 [(4, .int .i64 0)] hF (by kernel_rfl) fun a hF => ?_
  refine wpList_nil ?_
  refine hK1 _ _ ?_
  refine wp_seq_k fun K2 hK2 => ?_
  refine wp_block ?_
  refine wp_loop_k (G := Int × Int) (fun gg a w => Fr 16 [(0, some (.int .i64 gg.1)), (1, some (.int .i64 gg.2)), (4, some (.int .i64 0))] a ∧ Mem w0.heap.size w0 [] w ∧ (Nat.gcd gg.1.natAbs gg.2.natAbs = Nat.gcd n.natAbs d.natAbs) ∧ (-4611686018427387904 ≤ gg.1) ∧ (gg.1 ≤ 4611686018427387904) ∧ (-4611686018427387904 ≤ gg.2) ∧ (gg.2 ≤ 4611686018427387904)) (fun gg => gg.2.natAbs) (n, d) ?_ ?_
  · refine ⟨((((Fr.nil hF).c hF (i := 4) rfl rfl).c hF (i := 1) rfl rfl).c hF (i := 0) rfl rfl), (hM.sub Sub.nil), (show Nat.gcd n.natAbs d.natAbs = Nat.gcd n.natAbs d.natAbs from by rfl), (show -4611686018427387904 ≤ n from by omega), (show n ≤ 4611686018427387904 from by omega), (show -4611686018427387904 ≤ d from by omega), (show d ≤ 4611686018427387904 from by omega)⟩
  · intro gg a w hI
    intro K3 hK3
    obtain ⟨x, y⟩ := gg
    try dsimp only at hI hK3
    obtain ⟨hF, hM, hz1, hz2, hz3, hz4, hz5⟩ := hI
    have hG : Nat.gcd x.natAbs y.natAbs = Nat.gcd n.natAbs d.natAbs := by assumption
    obtain ⟨z, hz⟩ : ∃ z : Int, z = x.tmod y := ⟨_, rfl⟩
    have hza := tmod_abs x y
    rw [← hz] at hza
    refine wp_seq_k fun K4 hK4 => ?_
    refine wp_seq_k fun K5 hK5 => ?_
    refine wp_region_lit ?_
    refine sB 2 [(5, .int .i64 y), (6, .bool (!decide (y = 0)))] hF (by kernel_rfl) fun a hF => ?_
    refine wpList_nil ?_
    refine hK5 _ _ ?_
    by_cases hz6 : y = 0
    · skip
      replace hF := hF.c hF (i := 6) (v := .bool false) rfl (nT hz6)
      refine cF hF (by kernel_rfl) (by kernel_rfl) ?_
      refine wp_exit ?_
      refine hK2 _ _ ?_
      refine wp_seq_k fun K6 hK6 => ?_
      refine wp_seq_k fun K7 hK7 => ?_
      refine wp_region_lit ?_
      refine sB 2 [(11, .int .i64 x), (12, .bool (decide (x < 0)))] hF (by kernel_rfl) fun a hF => ?_
      refine wpList_nil ?_
      refine hK7 _ _ ?_
      by_cases hz7 : x < 0
      · skip
        replace hF := hF.c hF (i := 12) (v := .bool true) rfl (bT hz7)
        refine cT hF (by kernel_rfl) (by kernel_rfl) ?_
        refine wp_seq_k fun K8 hK8 => ?_
        refine wp_region_lit ?_
        refine sB 1 [(13, .int .i64 x)] hF (by kernel_rfl) fun a hF => ?_
        refine wl (eP 14 (v0 := .int .i64 (IntKind.i64.wrap (0 - x))) (v := .int .i64 (-x)) hF (by kernel_rfl) (fun _ => by kernel_rfl) (vi (by rw [Int.zero_sub]; exact (w64 (by omega)))) fun a hF => ?_)
        refine sB 1 [(4, .int .i64 (-x))] hF (by kernel_rfl) fun a hF => ?_
        refine wpList_nil ?_
        refine hK8 _ _ ?_
        refine wp_ret ?_
        refine hR0 _ _ ?_
        refine ret_of hF hM (.tmp rfl (.nil)) ?_
        have hy0 : y = 0 := by omega
        rw [hy0, Int.natAbs_zero, Nat.gcd_zero_right] at hG
        exact ⟨ret_int (by unfold rg; omega), hM.bel⟩
      · skip
        replace hF := hF.c hF (i := 12) (v := .bool false) rfl (bF hz7)
        refine cF hF (by kernel_rfl) (by kernel_rfl) ?_
        refine wp_skip ?_
        refine hK6 _ _ ?_
        refine wp_seq_k fun K9 hK9 => ?_
        refine wp_region_lit ?_
        refine sB 2 [(15, .int .i64 x), (4, .int .i64 x)] hF (by kernel_rfl) fun a hF => ?_
        refine wpList_nil ?_
        refine hK9 _ _ ?_
        refine wp_ret ?_
        refine hR0 _ _ ?_
        refine ret_of hF hM (.tmp rfl (.nil)) ?_
        have hy0 : y = 0 := by omega
        rw [hy0, Int.natAbs_zero, Nat.gcd_zero_right] at hG
        exact ⟨ret_int (by unfold rg; omega), hM.bel⟩
    · skip
      replace hF := hF.c hF (i := 6) (v := .bool true) rfl (nF hz6)
      refine cT hF (by kernel_rfl) (by kernel_rfl) ?_
      refine wp_skip ?_
      refine hK4 _ _ ?_
      refine wp_block ?_
      refine rQ hM (by kernel_rfl) (by kernel_rfl) ?_
      refine eQ 7 (v0 := .int .i64 y) (v := .int .i64 y) hF (by kernel_rfl) (fun _ => by kernel_rfl) rfl fun a hF => ?_
      refine eQ 8 (v0 := .int .i64 x) (v := .int .i64 x) hF (by kernel_rfl) (fun _ => by kernel_rfl) rfl fun a hF => ?_
      refine eQ 9 (v0 := .int .i64 y) (v := .int .i64 y) hF (by kernel_rfl) (fun _ => by kernel_rfl) rfl fun a hF => ?_
      refine eQ2 10 (v := .int .i64 z) hF (by kernel_rfl) (yld_rem x y hF rfl (by kernel_rfl) (by kernel_rfl) (by kernel_rfl) (by omega) (hz.symm)) fun a hF => ?_
      refine eQ 0 (v0 := .int .i64 y) (v := .int .i64 y) hF (by kernel_rfl) (fun _ => by kernel_rfl) rfl fun a hF => ?_
      refine eQ 1 (v0 := .int .i64 z) (v := .int .i64 z) hF (by kernel_rfl) (fun _ => by kernel_rfl) rfl fun a hF => ?_
      refine wpQuiet_nil ?_
      intro w hM
      have hzl := Nat.mod_lt x.natAbs (show y.natAbs > 0 by omega)
      refine hK3 _ _ ⟨(y, z), ⟨((((Fr.nil hF).c hF (i := 4) rfl rfl).c hF (i := 1) rfl rfl).c hF (i := 0) rfl rfl), (hM.sub Sub.nil), (show Nat.gcd y.natAbs z.natAbs = Nat.gcd n.natAbs d.natAbs from by rw [hz, gcd_tmod]; exact hG), (show -4611686018427387904 ≤ y from by omega), (show y ≤ 4611686018427387904 from by omega), (show -4611686018427387904 ≤ z from by omega), (show z ≤ 4611686018427387904 from by omega)⟩, (show z.natAbs < y.natAbs from by omega)⟩

theorem raMake_w (n d : Int) (w0 : World) (hT : Tab w0) :
    Calls Tryd.prog 10 #[.int .i64 n, .int .i64 d] w0 (Ret w0 (.tuple #[.agg #[.int .i64 (rmN n d), .int .i64 (rmD n d)], .int .i64 (rmE n d)])) := by
  refine enterK 45 Tryd.func10 rfl rfl rfl ?_
  intro a hF Q0 hR0 hN0
  have hM := Mem.start w0
  refine wp_seq_k fun K1 hK1 => ?_
  refine wp_region_lit ?_
  refine wl (eN 4 1 (t := 23) (fun b => .pointer (some ⟨b, 0, none⟩)) #[.int .i64 0, .int .i64 0] hF hM (by kernel_rfl) (fun _ => by kernel_rfl) fun bb1 a w hF hM => ?_)
  refine sB 1 [(5, .int .i64 0)] hF (by kernel_rfl) fun a hF => ?_
  refine wpList_nil ?_
  refine hK1 _ _ ?_
  refine wp_seq_k fun K2 hK2 => ?_
  refine wp_seq_k fun K3 hK3 => ?_
  refine wp_region_lit ?_
  refine sB 2 [(8, .int .i64 d), (9, .bool (decide (d = 0)))] hF (by kernel_rfl) fun a hF => ?_
  refine wpList_nil ?_
  refine hK3 _ _ ?_
  by_cases hz1 : d = 0
  · skip
    replace hF := hF.c hF (i := 9) (v := .bool true) rfl (bT hz1)
    refine cT hF (by kernel_rfl) (by kernel_rfl) ?_
    refine wp_seq_k fun K4 hK4 => ?_
    refine wp_region_lit ?_
    refine sB 1 [(10, .agg #[.int .i64 0, .int .i64 0])] hF (by kernel_rfl) fun a hF => ?_
    refine wl (sStore (i := 1) (off := 0) (cs' := #[.int .i64 0, .int .i64 0]) hF hM (by kernel_rfl) rfl rfl (by kernel_rfl) (by kernel_rfl) rfl (by kernel_rfl) fun w hM => ?_)
    refine sB 1 [(5, .int .i64 2)] hF (by kernel_rfl) fun a hF => ?_
    refine wpList_nil ?_
    refine hK4 _ _ ?_
    refine wp_ret ?_
    refine hR0 _ _ ?_
    refine ret_of hF hM (.cell (i := 1) rfl rfl (v := .agg #[.int .i64 0, .int .i64 0]) (by kernel_rfl) (.tmp rfl (.nil))) ?_
    have hd := rm_2 (n := n) (d := d) (by omega)
    exact ⟨ret_eq (by rw [hd.1, hd.2.1, hd.2.2]; rfl), hM.bel⟩
  · skip
    replace hF := hF.c hF (i := 9) (v := .bool false) rfl (bF hz1)
    refine cF hF (by kernel_rfl) (by kernel_rfl) ?_
    refine wp_skip ?_
    refine hK2 _ _ ?_
    refine wp_seq_k fun K5 hK5 => ?_
    refine wp_seq_k fun K6 hK6 => ?_
    by_cases hz2 : n < -4611686018427387904
    · skip
      refine wp_region_lit ?_
      refine sB 1 [(11, .int .i64 n)] hF (by kernel_rfl) fun a hF => ?_
      refine wl (eP 12 (v0 := .bool (decide (n < -4611686018427387904))) (v := .bool true) hF (by kernel_rfl) (fun _ => by kernel_rfl) (bT hz2) fun a hF => ?_)
      refine sB 12 [(13, .bool true), (14, undef), (15, undef), (16, .bool true), (17, .bool true), (18, undef), (19, undef), (20, .bool true), (21, .bool true), (22, undef), (23, undef), (24, .bool true)] hF (by kernel_rfl) fun a hF => ?_
      refine wpList_nil ?_
      refine hK6 _ _ ?_
      refine cT hF (by kernel_rfl) (by kernel_rfl) ?_
      refine wp_seq_k fun K7 hK7 => ?_
      refine wp_region_lit ?_
      refine sB 1 [(25, .agg #[.int .i64 0, .int .i64 0])] hF (by kernel_rfl) fun a hF => ?_
      refine wl (sStore (i := 1) (off := 0) (cs' := #[.int .i64 0, .int .i64 0]) hF hM (by kernel_rfl) rfl rfl (by kernel_rfl) (by kernel_rfl) rfl (by kernel_rfl) fun w hM => ?_)
      refine sB 1 [(5, .int .i64 6)] hF (by kernel_rfl) fun a hF => ?_
      refine wpList_nil ?_
      refine hK7 _ _ ?_
      refine wp_ret ?_
      refine hR0 _ _ ?_
      refine ret_of hF hM (.cell (i := 1) rfl rfl (v := .agg #[.int .i64 0, .int .i64 0]) (by kernel_rfl) (.tmp rfl (.nil))) ?_
      have hd := rm_6 (n := n) (d := d) (by omega) (by unfold wide; omega)
      exact ⟨ret_eq (by rw [hd.1, hd.2.1, hd.2.2]; rfl), hM.bel⟩
    · skip
      by_cases hz3 : 4611686018427387904 < n
      · skip
        refine wp_region_lit ?_
        refine sB 1 [(11, .int .i64 n)] hF (by kernel_rfl) fun a hF => ?_
        refine wl (eP 12 (v0 := .bool (decide (n < -4611686018427387904))) (v := .bool false) hF (by kernel_rfl) (fun _ => by kernel_rfl) (bF hz2) fun a hF => ?_)
        refine sB 2 [(13, .bool false), (14, .int .i64 n)] hF (by kernel_rfl) fun a hF => ?_
        refine wl (eP 15 (v0 := .bool (decide (4611686018427387904 < n))) (v := .bool true) hF (by kernel_rfl) (fun _ => by kernel_rfl) (bT hz3) fun a hF => ?_)
        refine sB 9 [(16, .bool true), (17, .bool true), (18, undef), (19, undef), (20, .bool true), (21, .bool true), (22, undef), (23, undef), (24, .bool true)] hF (by kernel_rfl) fun a hF => ?_
        refine wpList_nil ?_
        refine hK6 _ _ ?_
        refine cT hF (by kernel_rfl) (by kernel_rfl) ?_
        refine wp_seq_k fun K8 hK8 => ?_
        refine wp_region_lit ?_
        refine sB 1 [(25, .agg #[.int .i64 0, .int .i64 0])] hF (by kernel_rfl) fun a hF => ?_
        refine wl (sStore (i := 1) (off := 0) (cs' := #[.int .i64 0, .int .i64 0]) hF hM (by kernel_rfl) rfl rfl (by kernel_rfl) (by kernel_rfl) rfl (by kernel_rfl) fun w hM => ?_)
        refine sB 1 [(5, .int .i64 6)] hF (by kernel_rfl) fun a hF => ?_
        refine wpList_nil ?_
        refine hK8 _ _ ?_
        refine wp_ret ?_
        refine hR0 _ _ ?_
        refine ret_of hF hM (.cell (i := 1) rfl rfl (v := .agg #[.int .i64 0, .int .i64 0]) (by kernel_rfl) (.tmp rfl (.nil))) ?_
        have hd := rm_6 (n := n) (d := d) (by omega) (by unfold wide; omega)
        exact ⟨ret_eq (by rw [hd.1, hd.2.1, hd.2.2]; rfl), hM.bel⟩
      · skip
        by_cases hz4 : d < -4611686018427387904
        · skip
          refine wp_region_lit ?_
          refine sB 1 [(11, .int .i64 n)] hF (by kernel_rfl) fun a hF => ?_
          refine wl (eP 12 (v0 := .bool (decide (n < -4611686018427387904))) (v := .bool false) hF (by kernel_rfl) (fun _ => by kernel_rfl) (bF hz2) fun a hF => ?_)
          refine sB 2 [(13, .bool false), (14, .int .i64 n)] hF (by kernel_rfl) fun a hF => ?_
          refine wl (eP 15 (v0 := .bool (decide (4611686018427387904 < n))) (v := .bool false) hF (by kernel_rfl) (fun _ => by kernel_rfl) (bF hz3) fun a hF => ?_)
          refine sB 3 [(16, .bool false), (17, .bool false), (18, .int .i64 d)] hF (by kernel_rfl) fun a hF => ?_
          refine wl (eP 19 (v0 := .bool (decide (d < -4611686018427387904))) (v := .bool true) hF (by kernel_rfl) (fun _ => by kernel_rfl) (bT hz4) fun a hF => ?_)
          refine sB 5 [(20, .bool true), (21, .bool true), (22, undef), (23, undef), (24, .bool true)] hF (by kernel_rfl) fun a hF => ?_
          refine wpList_nil ?_
          refine hK6 _ _ ?_
          refine cT hF (by kernel_rfl) (by kernel_rfl) ?_
          refine wp_seq_k fun K9 hK9 => ?_
          refine wp_region_lit ?_
          refine sB 1 [(25, .agg #[.int .i64 0, .int .i64 0])] hF (by kernel_rfl) fun a hF => ?_
          refine wl (sStore (i := 1) (off := 0) (cs' := #[.int .i64 0, .int .i64 0]) hF hM (by kernel_rfl) rfl rfl (by kernel_rfl) (by kernel_rfl) rfl (by kernel_rfl) fun w hM => ?_)
          refine sB 1 [(5, .int .i64 6)] hF (by kernel_rfl) fun a hF => ?_
          refine wpList_nil ?_
          refine hK9 _ _ ?_
          refine wp_ret ?_
          refine hR0 _ _ ?_
          refine ret_of hF hM (.cell (i := 1) rfl rfl (v := .agg #[.int .i64 0, .int .i64 0]) (by kernel_rfl) (.tmp rfl (.nil))) ?_
          have hd := rm_6 (n := n) (d := d) (by omega) (by unfold wide; omega)
          exact ⟨ret_eq (by rw [hd.1, hd.2.1, hd.2.2]; rfl), hM.bel⟩
        · skip
          refine wp_region_lit ?_
          refine sB 1 [(11, .int .i64 n)] hF (by kernel_rfl) fun a hF => ?_
          refine wl (eP 12 (v0 := .bool (decide (n < -4611686018427387904))) (v := .bool false) hF (by kernel_rfl) (fun _ => by kernel_rfl) (bF hz2) fun a hF => ?_)
          refine sB 2 [(13, .bool false), (14, .int .i64 n)] hF (by kernel_rfl) fun a hF => ?_
          refine wl (eP 15 (v0 := .bool (decide (4611686018427387904 < n))) (v := .bool false) hF (by kernel_rfl) (fun _ => by kernel_rfl) (bF hz3) fun a hF => ?_)
          refine sB 3 [(16, .bool false), (17, .bool false), (18, .int .i64 d)] hF (by kernel_rfl) fun a hF => ?_
          refine wl (eP 19 (v0 := .bool (decide (d < -4611686018427387904))) (v := .bool false) hF (by kernel_rfl) (fun _ => by kernel_rfl) (bF hz4) fun a hF => ?_)
          refine sB 5 [(20, .bool false), (21, .bool false), (22, .int .i64 d), (23, .bool (decide (4611686018427387904 < d))), (24, .bool (decide (4611686018427387904 < d)))] hF (by kernel_rfl) fun a hF => ?_
          refine wpList_nil ?_
          refine hK6 _ _ ?_
          by_cases hz5 : 4611686018427387904 < d
          · skip
            replace hF := hF.c hF (i := 23) (v := .bool true) rfl (bT hz5)
            replace hF := hF.c hF (i := 24) (v := .bool true) rfl (bT hz5)
            refine cT hF (by kernel_rfl) (by kernel_rfl) ?_
            refine wp_seq_k fun K10 hK10 => ?_
            refine wp_region_lit ?_
            refine sB 1 [(25, .agg #[.int .i64 0, .int .i64 0])] hF (by kernel_rfl) fun a hF => ?_
            refine wl (sStore (i := 1) (off := 0) (cs' := #[.int .i64 0, .int .i64 0]) hF hM (by kernel_rfl) rfl rfl (by kernel_rfl) (by kernel_rfl) rfl (by kernel_rfl) fun w hM => ?_)
            refine sB 1 [(5, .int .i64 6)] hF (by kernel_rfl) fun a hF => ?_
            refine wpList_nil ?_
            refine hK10 _ _ ?_
            refine wp_ret ?_
            refine hR0 _ _ ?_
            refine ret_of hF hM (.cell (i := 1) rfl rfl (v := .agg #[.int .i64 0, .int .i64 0]) (by kernel_rfl) (.tmp rfl (.nil))) ?_
            have hd := rm_6 (n := n) (d := d) (by omega) (by unfold wide; omega)
            exact ⟨ret_eq (by rw [hd.1, hd.2.1, hd.2.2]; rfl), hM.bel⟩
          · skip
            replace hF := hF.c hF (i := 23) (v := .bool false) rfl (bF hz5)
            replace hF := hF.c hF (i := 24) (v := .bool false) rfl (bF hz5)
            refine cF hF (by kernel_rfl) (by kernel_rfl) ?_
            refine wp_skip ?_
            refine hK5 _ _ ?_
            refine wp_seq_k fun K11 hK11 => ?_
            refine wp_region_lit ?_
            refine sB 2 [(26, .int .i64 n), (27, .int .i64 d)] hF (by kernel_rfl) fun a hF => ?_
            refine wl (eM 28 (v := .int .i64 (rg n d)) hF hM (by kernel_rfl) (yld_call (f := 37) (args := #[.int .i64 n, .int .i64 d]) hF (by kernel_rfl) (fun _ => by kernel_rfl) (fun w hM => divisor_w n d w (by omega))) fun a w hF hM => ?_)
            have hg := rg_pos (n := n) (d := d) (by omega)
            have hgl := rg_le (n := n) (d := d) (by omega)
            refine sB 1 [(6, .int .i64 (rg n d))] hF (by kernel_rfl) fun a hF => ?_
            refine wpList_nil ?_
            refine hK11 _ _ ?_
            refine wp_seq_k fun K12 hK12 => ?_
            refine wp_seq_k fun K13 hK13 => ?_
            refine wp_region_lit ?_
            refine sB 2 [(29, .int .i64 d), (30, .bool (decide (d < 0)))] hF (by kernel_rfl) fun a hF => ?_
            refine wpList_nil ?_
            refine hK13 _ _ ?_
            by_cases hz6 : d < 0
            · skip
              replace hF := hF.c hF (i := 30) (v := .bool true) rfl (bT hz6)
              refine cT hF (by kernel_rfl) (by kernel_rfl) ?_
              refine wp_region_lit ?_
              refine sB 1 [(31, .int .i64 (rg n d))] hF (by kernel_rfl) fun a hF => ?_
              refine wl (eP 32 (v0 := .int .i64 (IntKind.i64.wrap (0 - rg n d))) (v := .int .i64 (-rg n d)) hF (by kernel_rfl) (fun _ => by kernel_rfl) (vi (by rw [Int.zero_sub]; exact (w64 (by omega)))) fun a hF => ?_)
              refine sB 1 [(6, .int .i64 (-rg n d))] hF (by kernel_rfl) fun a hF => ?_
              refine wpList_nil ?_
              refine hK12 _ _ ?_
              refine wp_seq_k fun K14 hK14 => ?_
              refine rF (by kernel_rfl) (by kernel_rfl) (fun S a w => ∃ bb2 : Nat, Fr 45 [(0, some (.int .i64 n)), (1, some (.int .i64 d)), (4, some (.pointer (some ⟨bb1, 0, none⟩))), (5, some (.int .i64 0)), (6, some (.int .i64 (-rg n d))), (7, (cond (S.getD 7 false) (some (.pointer (some ⟨bb2, 0, none⟩))) none)), (33, (cond (S.getD 0 false) (some (.int .i64 n)) none)), (34, (cond (S.getD 1 false) (some (.int .i64 (-rg n d))) none)), (35, (cond (S.getD 2 false) (some (.int .i64 (rN n d))) none)), (36, (cond (S.getD 3 false) (some (.int .i64 d)) none)), (37, (cond (S.getD 4 false) (some (.int .i64 (-rg n d))) none)), (38, (cond (S.getD 5 false) (some (.int .i64 (rD n d))) none)), (39, (cond (S.getD 6 false) (some (.agg #[.int .i64 (rN n d), .int .i64 (rD n d)])) none))] a ∧ Mem w0.heap.size w0 [(1, some (.row bb1 23 #[.int .i64 0, .int .i64 0])), (2, (cond (S.getD 8 false) (some (.row bb2 23 #[.int .i64 (rN n d), .int .i64 (rD n d)])) (cond (S.getD 7 false) (some (.row bb2 23 #[.int .i64 0, .int .i64 0])) none)))] w) ?_ ?_ ?_
              · exact ⟨0, ((((((((((((((Fr.nil hF).co hF (i := 39) (by kernel_rfl)).co hF (i := 38) (by kernel_rfl)).co hF (i := 37) (by kernel_rfl)).co hF (i := 36) (by kernel_rfl)).co hF (i := 35) (by kernel_rfl)).co hF (i := 34) (by kernel_rfl)).co hF (i := 33) (by kernel_rfl)).co hF (i := 7) (by kernel_rfl)).co hF (i := 6) (by kernel_rfl)).co hF (i := 5) (by kernel_rfl)).co hF (i := 4) (by kernel_rfl)).co hF (i := 1) (by kernel_rfl)).co hF (i := 0) (by kernel_rfl)), hM.drew.sub ((Sub.nil.co (k := 2) (by kernel_rfl)).co (k := 1) (by kernel_rfl))⟩
              · refine stC ?_ (stC ?_ (stC ?_ (stC ?_ (stC ?_ (stC ?_ (stC ?_ (stC ?_ (stC ?_ (trivial)))))))))
                · intro s0 s1 s2 s3 s4 s5 s6 s7 s8 hc hi hp a w hS
                  obtain rfl : s0 = false := hi
                  obtain ⟨bb2, hF, hM⟩ := hS
                  refine eP 33 (v0 := .int .i64 n) (v := .int .i64 n) hF (by kernel_rfl) (fun _ => by kernel_rfl) rfl fun a hF => ?_
                  exact ⟨bb2, ((hF.repl 6 (by kernel_rfl)).cast (by kernel_rfl)), (hM.cast (by kernel_rfl))⟩
                · intro s0 s1 s2 s3 s4 s5 s6 s7 s8 hc hi hp a w hS
                  obtain rfl : s1 = false := hi
                  obtain ⟨bb2, hF, hM⟩ := hS
                  refine eP 34 (v0 := .int .i64 (-rg n d)) (v := .int .i64 (-rg n d)) hF (by kernel_rfl) (fun _ => by kernel_rfl) rfl fun a hF => ?_
                  exact ⟨bb2, ((hF.repl 7 (by kernel_rfl)).cast (by kernel_rfl)), (hM.cast (by kernel_rfl))⟩
                · intro s0 s1 s2 s3 s4 s5 s6 s7 s8 hc hi hp a w hS
                  obtain rfl : s2 = false := hi
                  obtain rfl : s1 = true := hp 1 (by kernel_rfl)
                  obtain rfl : s0 = true := hp 0 (by kernel_rfl)
                  obtain ⟨bb2, hF, hM⟩ := hS
                  refine eM 35 (v := .int .i64 (rN n d)) hF hM (by kernel_rfl) (yld_quo n (-rg n d) hF rfl (by kernel_rfl) (by kernel_rfl) (by kernel_rfl) (by omega) ((qany (by omega) (by omega)).trans (quo_neg hz6).1)) fun a w hF hM => ?_
                  exact ⟨bb2, ((hF.repl 8 (by kernel_rfl)).cast (by kernel_rfl)), (hM.cast (by kernel_rfl))⟩
                · intro s0 s1 s2 s3 s4 s5 s6 s7 s8 hc hi hp a w hS
                  obtain rfl : s3 = false := hi
                  obtain ⟨bb2, hF, hM⟩ := hS
                  refine eP 36 (v0 := .int .i64 d) (v := .int .i64 d) hF (by kernel_rfl) (fun _ => by kernel_rfl) rfl fun a hF => ?_
                  exact ⟨bb2, ((hF.repl 9 (by kernel_rfl)).cast (by kernel_rfl)), (hM.cast (by kernel_rfl))⟩
                · intro s0 s1 s2 s3 s4 s5 s6 s7 s8 hc hi hp a w hS
                  obtain rfl : s4 = false := hi
                  obtain ⟨bb2, hF, hM⟩ := hS
                  refine eP 37 (v0 := .int .i64 (-rg n d)) (v := .int .i64 (-rg n d)) hF (by kernel_rfl) (fun _ => by kernel_rfl) rfl fun a hF => ?_
                  exact ⟨bb2, ((hF.repl 10 (by kernel_rfl)).cast (by kernel_rfl)), (hM.cast (by kernel_rfl))⟩
                · intro s0 s1 s2 s3 s4 s5 s6 s7 s8 hc hi hp a w hS
                  obtain rfl : s5 = false := hi
                  obtain rfl : s4 = true := hp 4 (by kernel_rfl)
                  obtain rfl : s3 = true := hp 3 (by kernel_rfl)
                  obtain ⟨bb2, hF, hM⟩ := hS
                  refine eM 38 (v := .int .i64 (rD n d)) hF hM (by kernel_rfl) (yld_quo d (-rg n d) hF rfl (by kernel_rfl) (by kernel_rfl) (by kernel_rfl) (by omega) ((qany (by omega) (by omega)).trans (quo_neg hz6).2)) fun a w hF hM => ?_
                  exact ⟨bb2, ((hF.repl 11 (by kernel_rfl)).cast (by kernel_rfl)), (hM.cast (by kernel_rfl))⟩
                · intro s0 s1 s2 s3 s4 s5 s6 s7 s8 hc hi hp a w hS
                  obtain rfl : s6 = false := hi
                  obtain rfl : s5 = true := hp 5 (by kernel_rfl)
                  obtain rfl : s2 = true := hp 2 (by kernel_rfl)
                  obtain ⟨bb2, hF, hM⟩ := hS
                  refine eP 39 (v0 := .agg #[.int .i64 (rN n d), .int .i64 (rD n d)]) (v := .agg #[.int .i64 (rN n d), .int .i64 (rD n d)]) hF (by kernel_rfl) (fun _ => by kernel_rfl) rfl fun a hF => ?_
                  exact ⟨bb2, ((hF.repl 12 (by kernel_rfl)).cast (by kernel_rfl)), (hM.cast (by kernel_rfl))⟩
                · intro s0 s1 s2 s3 s4 s5 s6 s7 s8 hc hi hp a w hS
                  obtain rfl : s7 = false := hi
                  obtain rfl : s8 = false := hc.f 8 7 (by kernel_rfl) rfl
                  obtain ⟨bb2, hF, hM⟩ := hS
                  refine eN 7 2 (t := 23) (fun b => .pointer (some ⟨b, 0, none⟩)) #[.int .i64 0, .int .i64 0] hF hM (by kernel_rfl) (fun _ => by kernel_rfl) fun bb2 a w hF hM => ?_
                  exact ⟨bb2, ((hF.repl 5 (by kernel_rfl)).cast (by kernel_rfl)), ((hM.repl 1 (by kernel_rfl)).cast (by kernel_rfl))⟩
                · intro s0 s1 s2 s3 s4 s5 s6 s7 s8 hc hi hp a w hS
                  obtain rfl : s8 = false := hi
                  obtain rfl : s7 = true := hp 7 (by kernel_rfl)
                  obtain rfl : s6 = true := hp 6 (by kernel_rfl)
                  obtain ⟨bb2, hF, hM⟩ := hS
                  refine sStore (i := 2) (off := 0) (cs' := #[.int .i64 (rN n d), .int .i64 (rD n d)]) hF hM (by kernel_rfl) rfl rfl (by kernel_rfl) (by kernel_rfl) rfl (by kernel_rfl) fun w hM => ?_
                  exact ⟨bb2, (hF.cast (by kernel_rfl)), ((hM.repl 1 (by kernel_rfl)).cast (by kernel_rfl))⟩
              · intro a w hS
                obtain ⟨bb2, hF, hM⟩ := hS
                replace hF : Fr 45 [(0, some (.int .i64 n)), (1, some (.int .i64 d)), (4, some (.pointer (some ⟨bb1, 0, none⟩))), (5, some (.int .i64 0)), (6, some (.int .i64 (-rg n d))), (7, some (.pointer (some ⟨bb2, 0, none⟩))), (33, some (.int .i64 n)), (34, some (.int .i64 (-rg n d))), (35, some (.int .i64 (rN n d))), (36, some (.int .i64 d)), (37, some (.int .i64 (-rg n d))), (38, some (.int .i64 (rD n d))), (39, some (.agg #[.int .i64 (rN n d), .int .i64 (rD n d)]))] a := hF.cast (by kernel_rfl)
                replace hM : Mem w0.heap.size w0 [(1, some (.row bb1 23 #[.int .i64 0, .int .i64 0])), (2, some (.row bb2 23 #[.int .i64 (rN n d), .int .i64 (rD n d)]))] w := hM.cast (by kernel_rfl)
                refine hK14 _ _ ?_
                refine wp_seq_k fun K15 hK15 => ?_
                refine wp_seq_k fun K16 hK16 => ?_
                refine wp_region_lit ?_
                refine wl (eL 40 2 0 (v := .agg #[.int .i64 (rN n d), .int .i64 (rD n d)]) hF hM (by kernel_rfl) rfl rfl (by kernel_rfl) (by kernel_rfl) fun a w hF hM => ?_)
                refine wl (eM 41 (v := .int .i64 (raE (rN n d) (rD n d))) hF hM (by kernel_rfl) (yld_call (f := 12) (args := #[.agg #[.int .i64 (rN n d), .int .i64 (rD n d)]]) hF (by kernel_rfl) (fun _ => by kernel_rfl) (fun w hM => raCheck_w (rN n d) (rD n d) w (hT.below (Nat.le_refl _) hM.bel))) fun a w hF hM => ?_)
                refine sB 1 [(42, .bool (!decide (raE (rN n d) (rD n d) = 0)))] hF (by kernel_rfl) fun a hF => ?_
                refine wpList_nil ?_
                refine hK16 _ _ ?_
                by_cases hz7 : raE (rN n d) (rD n d) = 0
                · skip
                  have hz8 := raE_ok hz7
                  replace hF := hF.c hF (i := 42) (v := .bool false) rfl (nT hz7)
                  refine cF hF (by kernel_rfl) (by kernel_rfl) ?_
                  refine wp_skip ?_
                  refine hK15 _ _ ?_
                  refine wp_seq_k fun K17 hK17 => ?_
                  refine wp_region_lit ?_
                  refine wl (eL 44 2 0 (v := .agg #[.int .i64 (rN n d), .int .i64 (rD n d)]) hF hM (by kernel_rfl) rfl rfl (by kernel_rfl) (by kernel_rfl) fun a w hF hM => ?_)
                  refine wl (sStore (i := 1) (off := 0) (cs' := #[.int .i64 (rN n d), .int .i64 (rD n d)]) hF hM (by kernel_rfl) rfl rfl (by kernel_rfl) (by kernel_rfl) rfl (by kernel_rfl) fun w hM => ?_)
                  refine sB 1 [(5, .int .i64 0)] hF (by kernel_rfl) fun a hF => ?_
                  refine wpList_nil ?_
                  refine hK17 _ _ ?_
                  refine wp_ret ?_
                  refine hR0 _ _ ?_
                  refine ret_of hF hM (.cell (i := 1) rfl rfl (v := .agg #[.int .i64 (rN n d), .int .i64 (rD n d)]) (by kernel_rfl) (.tmp rfl (.nil))) ?_
                  have hd := rm_0 (n := n) (d := d) (by omega) (by unfold wide; omega) hz7
                  exact ⟨ret_eq (by rw [hd.1, hd.2.1, hd.2.2]; rfl), hM.bel⟩
                · skip
                  replace hF := hF.c hF (i := 42) (v := .bool true) rfl (nF hz7)
                  refine cT hF (by kernel_rfl) (by kernel_rfl) ?_
                  refine wp_seq_k fun K18 hK18 => ?_
                  refine wp_region_lit ?_
                  refine sB 1 [(43, .agg #[.int .i64 0, .int .i64 0])] hF (by kernel_rfl) fun a hF => ?_
                  refine wl (sStore (i := 1) (off := 0) (cs' := #[.int .i64 0, .int .i64 0]) hF hM (by kernel_rfl) rfl rfl (by kernel_rfl) (by kernel_rfl) rfl (by kernel_rfl) fun w hM => ?_)
                  refine sB 1 [(5, .int .i64 6)] hF (by kernel_rfl) fun a hF => ?_
                  refine wpList_nil ?_
                  refine hK18 _ _ ?_
                  refine wp_ret ?_
                  refine hR0 _ _ ?_
                  refine ret_of hF hM (.cell (i := 1) rfl rfl (v := .agg #[.int .i64 0, .int .i64 0]) (by kernel_rfl) (.tmp rfl (.nil))) ?_
                  have hd := rm_66 (n := n) (d := d) (by omega) (by unfold wide; omega) hz7
                  exact ⟨ret_eq (by rw [hd.1, hd.2.1, hd.2.2]; rfl), hM.bel⟩
            · skip
              replace hF := hF.c hF (i := 30) (v := .bool false) rfl (bF hz6)
              refine cF hF (by kernel_rfl) (by kernel_rfl) ?_
              refine wp_skip ?_
              refine hK12 _ _ ?_
              refine wp_seq_k fun K19 hK19 => ?_
              refine rF (by kernel_rfl) (by kernel_rfl) (fun S a w => ∃ bb3 : Nat, Fr 45 [(0, some (.int .i64 n)), (1, some (.int .i64 d)), (4, some (.pointer (some ⟨bb1, 0, none⟩))), (5, some (.int .i64 0)), (6, some (.int .i64 (rg n d))), (7, (cond (S.getD 7 false) (some (.pointer (some ⟨bb3, 0, none⟩))) none)), (33, (cond (S.getD 0 false) (some (.int .i64 n)) none)), (34, (cond (S.getD 1 false) (some (.int .i64 (rg n d))) none)), (35, (cond (S.getD 2 false) (some (.int .i64 (rN n d))) none)), (36, (cond (S.getD 3 false) (some (.int .i64 d)) none)), (37, (cond (S.getD 4 false) (some (.int .i64 (rg n d))) none)), (38, (cond (S.getD 5 false) (some (.int .i64 (rD n d))) none)), (39, (cond (S.getD 6 false) (some (.agg #[.int .i64 (rN n d), .int .i64 (rD n d)])) none))] a ∧ Mem w0.heap.size w0 [(1, some (.row bb1 23 #[.int .i64 0, .int .i64 0])), (3, (cond (S.getD 8 false) (some (.row bb3 23 #[.int .i64 (rN n d), .int .i64 (rD n d)])) (cond (S.getD 7 false) (some (.row bb3 23 #[.int .i64 0, .int .i64 0])) none)))] w) ?_ ?_ ?_
              · exact ⟨0, ((((((((((((((Fr.nil hF).co hF (i := 39) (by kernel_rfl)).co hF (i := 38) (by kernel_rfl)).co hF (i := 37) (by kernel_rfl)).co hF (i := 36) (by kernel_rfl)).co hF (i := 35) (by kernel_rfl)).co hF (i := 34) (by kernel_rfl)).co hF (i := 33) (by kernel_rfl)).co hF (i := 7) (by kernel_rfl)).co hF (i := 6) (by kernel_rfl)).co hF (i := 5) (by kernel_rfl)).co hF (i := 4) (by kernel_rfl)).co hF (i := 1) (by kernel_rfl)).co hF (i := 0) (by kernel_rfl)), hM.drew.sub ((Sub.nil.co (k := 3) (by kernel_rfl)).co (k := 1) (by kernel_rfl))⟩
              · refine stC ?_ (stC ?_ (stC ?_ (stC ?_ (stC ?_ (stC ?_ (stC ?_ (stC ?_ (stC ?_ (trivial)))))))))
                · intro s0 s1 s2 s3 s4 s5 s6 s7 s8 hc hi hp a w hS
                  obtain rfl : s0 = false := hi
                  obtain ⟨bb3, hF, hM⟩ := hS
                  refine eP 33 (v0 := .int .i64 n) (v := .int .i64 n) hF (by kernel_rfl) (fun _ => by kernel_rfl) rfl fun a hF => ?_
                  exact ⟨bb3, ((hF.repl 6 (by kernel_rfl)).cast (by kernel_rfl)), (hM.cast (by kernel_rfl))⟩
                · intro s0 s1 s2 s3 s4 s5 s6 s7 s8 hc hi hp a w hS
                  obtain rfl : s1 = false := hi
                  obtain ⟨bb3, hF, hM⟩ := hS
                  refine eP 34 (v0 := .int .i64 (rg n d)) (v := .int .i64 (rg n d)) hF (by kernel_rfl) (fun _ => by kernel_rfl) rfl fun a hF => ?_
                  exact ⟨bb3, ((hF.repl 7 (by kernel_rfl)).cast (by kernel_rfl)), (hM.cast (by kernel_rfl))⟩
                · intro s0 s1 s2 s3 s4 s5 s6 s7 s8 hc hi hp a w hS
                  obtain rfl : s2 = false := hi
                  obtain rfl : s1 = true := hp 1 (by kernel_rfl)
                  obtain rfl : s0 = true := hp 0 (by kernel_rfl)
                  obtain ⟨bb3, hF, hM⟩ := hS
                  refine eM 35 (v := .int .i64 (rN n d)) hF hM (by kernel_rfl) (yld_quo n (rg n d) hF rfl (by kernel_rfl) (by kernel_rfl) (by kernel_rfl) (by omega) ((qany (by omega) (by omega)).trans (quo_pos hz6).1)) fun a w hF hM => ?_
                  exact ⟨bb3, ((hF.repl 8 (by kernel_rfl)).cast (by kernel_rfl)), (hM.cast (by kernel_rfl))⟩
                · intro s0 s1 s2 s3 s4 s5 s6 s7 s8 hc hi hp a w hS
                  obtain rfl : s3 = false := hi
                  obtain ⟨bb3, hF, hM⟩ := hS
                  refine eP 36 (v0 := .int .i64 d) (v := .int .i64 d) hF (by kernel_rfl) (fun _ => by kernel_rfl) rfl fun a hF => ?_
                  exact ⟨bb3, ((hF.repl 9 (by kernel_rfl)).cast (by kernel_rfl)), (hM.cast (by kernel_rfl))⟩
                · intro s0 s1 s2 s3 s4 s5 s6 s7 s8 hc hi hp a w hS
                  obtain rfl : s4 = false := hi
                  obtain ⟨bb3, hF, hM⟩ := hS
                  refine eP 37 (v0 := .int .i64 (rg n d)) (v := .int .i64 (rg n d)) hF (by kernel_rfl) (fun _ => by kernel_rfl) rfl fun a hF => ?_
                  exact ⟨bb3, ((hF.repl 10 (by kernel_rfl)).cast (by kernel_rfl)), (hM.cast (by kernel_rfl))⟩
                · intro s0 s1 s2 s3 s4 s5 s6 s7 s8 hc hi hp a w hS
                  obtain rfl : s5 = false := hi
                  obtain rfl : s4 = true := hp 4 (by kernel_rfl)
                  obtain rfl : s3 = true := hp 3 (by kernel_rfl)
                  obtain ⟨bb3, hF, hM⟩ := hS
                  refine eM 38 (v := .int .i64 (rD n d)) hF hM (by kernel_rfl) (yld_quo d (rg n d) hF rfl (by kernel_rfl) (by kernel_rfl) (by kernel_rfl) (by omega) ((qany (by omega) (by omega)).trans (quo_pos hz6).2)) fun a w hF hM => ?_
                  exact ⟨bb3, ((hF.repl 11 (by kernel_rfl)).cast (by kernel_rfl)), (hM.cast (by kernel_rfl))⟩
                · intro s0 s1 s2 s3 s4 s5 s6 s7 s8 hc hi hp a w hS
                  obtain rfl : s6 = false := hi
                  obtain rfl : s5 = true := hp 5 (by kernel_rfl)
                  obtain rfl : s2 = true := hp 2 (by kernel_rfl)
                  obtain ⟨bb3, hF, hM⟩ := hS
                  refine eP 39 (v0 := .agg #[.int .i64 (rN n d), .int .i64 (rD n d)]) (v := .agg #[.int .i64 (rN n d), .int .i64 (rD n d)]) hF (by kernel_rfl) (fun _ => by kernel_rfl) rfl fun a hF => ?_
                  exact ⟨bb3, ((hF.repl 12 (by kernel_rfl)).cast (by kernel_rfl)), (hM.cast (by kernel_rfl))⟩
                · intro s0 s1 s2 s3 s4 s5 s6 s7 s8 hc hi hp a w hS
                  obtain rfl : s7 = false := hi
                  obtain rfl : s8 = false := hc.f 8 7 (by kernel_rfl) rfl
                  obtain ⟨bb3, hF, hM⟩ := hS
                  refine eN 7 3 (t := 23) (fun b => .pointer (some ⟨b, 0, none⟩)) #[.int .i64 0, .int .i64 0] hF hM (by kernel_rfl) (fun _ => by kernel_rfl) fun bb3 a w hF hM => ?_
                  exact ⟨bb3, ((hF.repl 5 (by kernel_rfl)).cast (by kernel_rfl)), ((hM.repl 1 (by kernel_rfl)).cast (by kernel_rfl))⟩
                · intro s0 s1 s2 s3 s4 s5 s6 s7 s8 hc hi hp a w hS
                  obtain rfl : s8 = false := hi
                  obtain rfl : s7 = true := hp 7 (by kernel_rfl)
                  obtain rfl : s6 = true := hp 6 (by kernel_rfl)
                  obtain ⟨bb3, hF, hM⟩ := hS
                  refine sStore (i := 3) (off := 0) (cs' := #[.int .i64 (rN n d), .int .i64 (rD n d)]) hF hM (by kernel_rfl) rfl rfl (by kernel_rfl) (by kernel_rfl) rfl (by kernel_rfl) fun w hM => ?_
                  exact ⟨bb3, (hF.cast (by kernel_rfl)), ((hM.repl 1 (by kernel_rfl)).cast (by kernel_rfl))⟩
              · intro a w hS
                obtain ⟨bb3, hF, hM⟩ := hS
                replace hF : Fr 45 [(0, some (.int .i64 n)), (1, some (.int .i64 d)), (4, some (.pointer (some ⟨bb1, 0, none⟩))), (5, some (.int .i64 0)), (6, some (.int .i64 (rg n d))), (7, some (.pointer (some ⟨bb3, 0, none⟩))), (33, some (.int .i64 n)), (34, some (.int .i64 (rg n d))), (35, some (.int .i64 (rN n d))), (36, some (.int .i64 d)), (37, some (.int .i64 (rg n d))), (38, some (.int .i64 (rD n d))), (39, some (.agg #[.int .i64 (rN n d), .int .i64 (rD n d)]))] a := hF.cast (by kernel_rfl)
                replace hM : Mem w0.heap.size w0 [(1, some (.row bb1 23 #[.int .i64 0, .int .i64 0])), (3, some (.row bb3 23 #[.int .i64 (rN n d), .int .i64 (rD n d)]))] w := hM.cast (by kernel_rfl)
                refine hK19 _ _ ?_
                refine wp_seq_k fun K20 hK20 => ?_
                refine wp_seq_k fun K21 hK21 => ?_
                refine wp_region_lit ?_
                refine wl (eL 40 3 0 (v := .agg #[.int .i64 (rN n d), .int .i64 (rD n d)]) hF hM (by kernel_rfl) rfl rfl (by kernel_rfl) (by kernel_rfl) fun a w hF hM => ?_)
                refine wl (eM 41 (v := .int .i64 (raE (rN n d) (rD n d))) hF hM (by kernel_rfl) (yld_call (f := 12) (args := #[.agg #[.int .i64 (rN n d), .int .i64 (rD n d)]]) hF (by kernel_rfl) (fun _ => by kernel_rfl) (fun w hM => raCheck_w (rN n d) (rD n d) w (hT.below (Nat.le_refl _) hM.bel))) fun a w hF hM => ?_)
                refine sB 1 [(42, .bool (!decide (raE (rN n d) (rD n d) = 0)))] hF (by kernel_rfl) fun a hF => ?_
                refine wpList_nil ?_
                refine hK21 _ _ ?_
                by_cases hz9 : raE (rN n d) (rD n d) = 0
                · skip
                  have hz10 := raE_ok hz9
                  replace hF := hF.c hF (i := 42) (v := .bool false) rfl (nT hz9)
                  refine cF hF (by kernel_rfl) (by kernel_rfl) ?_
                  refine wp_skip ?_
                  refine hK20 _ _ ?_
                  refine wp_seq_k fun K22 hK22 => ?_
                  refine wp_region_lit ?_
                  refine wl (eL 44 3 0 (v := .agg #[.int .i64 (rN n d), .int .i64 (rD n d)]) hF hM (by kernel_rfl) rfl rfl (by kernel_rfl) (by kernel_rfl) fun a w hF hM => ?_)
                  refine wl (sStore (i := 1) (off := 0) (cs' := #[.int .i64 (rN n d), .int .i64 (rD n d)]) hF hM (by kernel_rfl) rfl rfl (by kernel_rfl) (by kernel_rfl) rfl (by kernel_rfl) fun w hM => ?_)
                  refine sB 1 [(5, .int .i64 0)] hF (by kernel_rfl) fun a hF => ?_
                  refine wpList_nil ?_
                  refine hK22 _ _ ?_
                  refine wp_ret ?_
                  refine hR0 _ _ ?_
                  refine ret_of hF hM (.cell (i := 1) rfl rfl (v := .agg #[.int .i64 (rN n d), .int .i64 (rD n d)]) (by kernel_rfl) (.tmp rfl (.nil))) ?_
                  have hd := rm_0 (n := n) (d := d) (by omega) (by unfold wide; omega) hz9
                  exact ⟨ret_eq (by rw [hd.1, hd.2.1, hd.2.2]; rfl), hM.bel⟩
                · skip
                  replace hF := hF.c hF (i := 42) (v := .bool true) rfl (nF hz9)
                  refine cT hF (by kernel_rfl) (by kernel_rfl) ?_
                  refine wp_seq_k fun K23 hK23 => ?_
                  refine wp_region_lit ?_
                  refine sB 1 [(43, .agg #[.int .i64 0, .int .i64 0])] hF (by kernel_rfl) fun a hF => ?_
                  refine wl (sStore (i := 1) (off := 0) (cs' := #[.int .i64 0, .int .i64 0]) hF hM (by kernel_rfl) rfl rfl (by kernel_rfl) (by kernel_rfl) rfl (by kernel_rfl) fun w hM => ?_)
                  refine sB 1 [(5, .int .i64 6)] hF (by kernel_rfl) fun a hF => ?_
                  refine wpList_nil ?_
                  refine hK23 _ _ ?_
                  refine wp_ret ?_
                  refine hR0 _ _ ?_
                  refine ret_of hF hM (.cell (i := 1) rfl rfl (v := .agg #[.int .i64 0, .int .i64 0]) (by kernel_rfl) (.tmp rfl (.nil))) ?_
                  have hd := rm_66 (n := n) (d := d) (by omega) (by unfold wide; omega) hz9
                  exact ⟨ret_eq (by rw [hd.1, hd.2.1, hd.2.2]; rfl), hM.bel⟩

theorem rabs2_w (x : Int) (w0 : World) (h : -4611686018427387904 ≤ x ∧ x ≤ 4611686018427387904) :
    Calls Tryd.prog 39 #[.int .i64 x] w0 (Ret w0 (.int .i64 (x.natAbs : Int))) := by
  refine enterK 7 Tryd.func39 rfl rfl rfl ?_
  intro a hF Q0 hR0 hN0
  have hM := Mem.start w0
  refine wp_seq_k fun K1 hK1 => ?_
  refine wp_region_lit ?_
  refine sB 1 [(2, .int .i64 0)] hF (by kernel_rfl) fun a hF => ?_
  refine wpList_nil ?_
  refine hK1 _ _ ?_
  refine wp_seq_k fun K2 hK2 => ?_
  refine wp_region_lit ?_
  refine sB 2 [(3, .int .i64 x), (4, .int .i64 x)] hF (by kernel_rfl) fun a hF => ?_
  refine wl (eP 5 (v0 := .int .i64 (IntKind.i64.wrap (0 - x))) (v := .int .i64 (-x)) hF (by kernel_rfl) (fun _ => by kernel_rfl) (vi (by rw [Int.zero_sub]; exact (w64 (by omega)))) fun a hF => ?_)
  refine wl (eP 6 (v0 := .int .i64 (if -x > x then -x else x)) (v := .int .i64 (max x (-x))) hF (by kernel_rfl) (fun _ => by kernel_rfl) (vi (max_if _ _)) fun a hF => ?_)
  refine sB 1 [(2, .int .i64 (max x (-x)))] hF (by kernel_rfl) fun a hF => ?_
  refine wpList_nil ?_
  refine hK2 _ _ ?_
  refine wp_ret ?_
  refine hR0 _ _ ?_
  refine ret_of hF hM (.tmp rfl (.nil)) ?_
  exact ⟨ret_int (by omega), hM.bel⟩

theorem rgcd_w (aN bN : Nat) (w0 : World) (h : (aN : Int) ≤ 4611686018427387904 ∧ (bN : Int) ≤ 4611686018427387904) :
    Calls Tryd.prog 38 #[.int .i64 (aN : Int), .int .i64 (bN : Int)] w0 (Ret w0 (.int .i64 (Nat.gcd aN bN : Int))) := by
  refine enterK 12 Tryd.func38 rfl rfl rfl ?_
  intro a hF Q0 hR0 hN0
  have hM := Mem.start w0
  refine wp_seq_k fun K1 hK1 => ?_
  refine wp_region_lit ?_
  refine sB 1 [(4, .int .i64 0)] hF (by kernel_rfl) fun a hF => ?_
  refine wpList_nil ?_
  refine hK1 _ _ ?_
  refine wp_seq_k fun K2 hK2 => ?_
  refine wp_block ?_
  refine wp_loop_k (G := Nat × Nat) (fun gg a w => Fr 12 [(0, some (.int .i64 (gg.1 : Int))), (1, some (.int .i64 (gg.2 : Int))), (4, some (.int .i64 0))] a ∧ Mem w0.heap.size w0 [] w ∧ (Nat.gcd gg.1 gg.2 = Nat.gcd aN bN) ∧ ((gg.1 : Int) ≤ 4611686018427387904) ∧ ((gg.2 : Int) ≤ 4611686018427387904)) (fun gg => gg.2) (aN, bN) ?_ ?_
  · refine ⟨((((Fr.nil hF).c hF (i := 4) rfl rfl).c hF (i := 1) rfl rfl).c hF (i := 0) rfl rfl), (hM.sub Sub.nil), (show Nat.gcd aN bN = Nat.gcd aN bN from by rfl), (show (aN : Int) ≤ 4611686018427387904 from by omega), (show (bN : Int) ≤ 4611686018427387904 from by omega)⟩
  · intro gg a w hI
    intro K3 hK3
    obtain ⟨x, y⟩ := gg
    try dsimp only at hI hK3
    obtain ⟨hF, hM, hz1, hz2, hz3⟩ := hI
    have hG : Nat.gcd x y = Nat.gcd aN bN := by assumption
    refine wp_seq_k fun K4 hK4 => ?_
    refine wp_seq_k fun K5 hK5 => ?_
    refine wp_region_lit ?_
    refine sB 2 [(5, .int .i64 (y : Int)), (6, .bool (decide (0 < (y : Int))))] hF (by kernel_rfl) fun a hF => ?_
    refine wpList_nil ?_
    refine hK5 _ _ ?_
    by_cases hz4 : 0 < (y : Int)
    · skip
      replace hF := hF.c hF (i := 6) (v := .bool true) rfl (bT hz4)
      refine cT hF (by kernel_rfl) (by kernel_rfl) ?_
      refine wp_skip ?_
      refine hK4 _ _ ?_
      refine wp_block ?_
      refine rQ hM (by kernel_rfl) (by kernel_rfl) ?_
      refine eQ 7 (v0 := .int .i64 (y : Int)) (v := .int .i64 (y : Int)) hF (by kernel_rfl) (fun _ => by kernel_rfl) rfl fun a hF => ?_
      refine eQ 8 (v0 := .int .i64 (x : Int)) (v := .int .i64 (x : Int)) hF (by kernel_rfl) (fun _ => by kernel_rfl) rfl fun a hF => ?_
      refine eQ 9 (v0 := .int .i64 (y : Int)) (v := .int .i64 (y : Int)) hF (by kernel_rfl) (fun _ => by kernel_rfl) rfl fun a hF => ?_
      refine eQ2 10 (v := .int .i64 ((x : Int) % (y : Int))) hF (by kernel_rfl) (yld_rem (x : Int) (y : Int) hF rfl (by kernel_rfl) (by kernel_rfl) (by kernel_rfl) (by omega) (Int.tmod_eq_emod_of_nonneg (by omega))) fun a hF => ?_
      have := emod_bd (p := (x : Int)) (q := (y : Int)) (by omega) (by omega)
      refine eQ 0 (v0 := .int .i64 (y : Int)) (v := .int .i64 (y : Int)) hF (by kernel_rfl) (fun _ => by kernel_rfl) rfl fun a hF => ?_
      refine eQ 1 (v0 := .int .i64 ((x : Int) % (y : Int))) (v := .int .i64 ((x : Int) % (y : Int))) hF (by kernel_rfl) (fun _ => by kernel_rfl) rfl fun a hF => ?_
      refine wpQuiet_nil ?_
      intro w hM
      obtain ⟨z, hz⟩ : ∃ z : Nat, z = x % y := ⟨_, rfl⟩
      have hzc : (z : Int) = (x : Int) % (y : Int) := by rw [hz]; rfl
      have hzl := Nat.mod_lt x (show y > 0 by omega)
      rw [← hz] at hzl
      refine hK3 _ _ ⟨(y, z), ⟨((((Fr.nil hF).c hF (i := 4) rfl rfl).c hF (i := 1) rfl (vi (show ((x : Int) % (y : Int) : Int) = (z : Int) from by omega))).c hF (i := 0) rfl rfl), (hM.sub Sub.nil), (show Nat.gcd y z = Nat.gcd aN bN from by rw [hz, gcd_step]; assumption), (show (y : Int) ≤ 4611686018427387904 from by omega), (show (z : Int) ≤ 4611686018427387904 from by omega)⟩, (show z < y from by omega)⟩
    · skip
      replace hF := hF.c hF (i := 6) (v := .bool false) rfl (bF hz4)
      refine cF hF (by kernel_rfl) (by kernel_rfl) ?_
      refine wp_exit ?_
      refine hK2 _ _ ?_
      refine wp_seq_k fun K6 hK6 => ?_
      refine wp_region_lit ?_
      refine sB 2 [(11, .int .i64 (x : Int)), (4, .int .i64 (x : Int))] hF (by kernel_rfl) fun a hF => ?_
      refine wpList_nil ?_
      refine hK6 _ _ ?_
      refine wp_ret ?_
      refine hR0 _ _ ?_
      refine ret_of hF hM (.tmp rfl (.nil)) ?_
      have hy0 : y = 0 := by omega
      rw [hy0, Nat.gcd_zero_right] at hG
      exact ⟨ret_int (by rw [← hG]), hM.bel⟩

theorem gcd_at {n d e : Int} {w : World} (h : ((d.natAbs : Nat) : Int) = e) (q : Calls Tryd.prog 38 #[.int .i64 (n.natAbs : Int), .int .i64 (d.natAbs : Int)] w (Ret w (.int .i64 (Nat.gcd n.natAbs d.natAbs : Int)))) : Calls Tryd.prog 38 #[.int .i64 (n.natAbs : Int), .int .i64 e] w (Ret w (.int .i64 (rg n d))) := by
  rw [h] at q
  exact q
theorem raRight_yes (n d : Int) (w0 : World) (h : raE n d = 0) :
    Calls Tryd.prog 40 #[.agg #[.int .i64 n, .int .i64 d]] w0 (Ret w0 (.bool true)) := by
  have hr := raE_ok h
  refine enterK 30 Tryd.func40 rfl rfl rfl ?_
  intro a hF Q0 hR0 hN0
  have hM := Mem.start w0
  refine wp_seq_k fun K1 hK1 => ?_
  refine wp_region_lit ?_
  refine wl (eN 1 1 (t := 23) (fun b => .pointer (some ⟨b, 0, none⟩)) #[.int .i64 n, .int .i64 d] hF hM (by kernel_rfl) (fun _ => by kernel_rfl) fun bb1 a w hF hM => ?_)
  refine sB 1 [(2, .bool false)] hF (by kernel_rfl) fun a hF => ?_
  refine wpList_nil ?_
  refine hK1 _ _ ?_
  refine wp_seq_k fun K2 hK2 => ?_
  refine rQ hM (by kernel_rfl) (by kernel_rfl) ?_
  refine eQ 3 (v0 := .pointer (some ⟨bb1, 1, none⟩)) (v := .pointer (some ⟨bb1, 1, none⟩)) hF (by kernel_rfl) (fun _ => by kernel_rfl) rfl fun a hF => ?_
  refine eQL 4 1 1 (v := .int .i64 d) hF (by kernel_rfl) rfl rfl (by kernel_rfl) (by kernel_rfl) fun a hF => ?_
  refine eQ 5 (v0 := .bool (decide (1 ≤ d))) (v := .bool true) hF (by kernel_rfl) (fun _ => by kernel_rfl) (bT (by omega)) fun a hF => ?_
  refine eQ 6 (v0 := .bool true) (v := .bool true) hF (by kernel_rfl) (fun _ => by kernel_rfl) rfl fun a hF => ?_
  refine eQ 7 (v0 := .pointer (some ⟨bb1, 1, none⟩)) (v := .pointer (some ⟨bb1, 1, none⟩)) hF (by kernel_rfl) (fun _ => by kernel_rfl) rfl fun a hF => ?_
  refine eQL 8 1 1 (v := .int .i64 d) hF (by kernel_rfl) rfl rfl (by kernel_rfl) (by kernel_rfl) fun a hF => ?_
  refine eQ 9 (v0 := .bool (decide (d ≤ 1073741824))) (v := .bool true) hF (by kernel_rfl) (fun _ => by kernel_rfl) (bT (by omega)) fun a hF => ?_
  refine eQ 10 (v0 := .bool true) (v := .bool true) hF (by kernel_rfl) (fun _ => by kernel_rfl) rfl fun a hF => ?_
  refine eQ 11 (v0 := .bool true) (v := .bool true) hF (by kernel_rfl) (fun _ => by kernel_rfl) rfl fun a hF => ?_
  refine eQ 12 (v0 := .pointer (some ⟨bb1, 0, none⟩)) (v := .pointer (some ⟨bb1, 0, none⟩)) hF (by kernel_rfl) (fun _ => by kernel_rfl) rfl fun a hF => ?_
  refine eQL 13 1 0 (v := .int .i64 n) hF (by kernel_rfl) rfl rfl (by kernel_rfl) (by kernel_rfl) fun a hF => ?_
  refine eQ 14 (v0 := .bool (decide (-1073741824 ≤ n))) (v := .bool true) hF (by kernel_rfl) (fun _ => by kernel_rfl) (bT (by omega)) fun a hF => ?_
  refine eQ 15 (v0 := .bool true) (v := .bool true) hF (by kernel_rfl) (fun _ => by kernel_rfl) rfl fun a hF => ?_
  refine eQ 16 (v0 := .bool true) (v := .bool true) hF (by kernel_rfl) (fun _ => by kernel_rfl) rfl fun a hF => ?_
  refine eQ 17 (v0 := .pointer (some ⟨bb1, 0, none⟩)) (v := .pointer (some ⟨bb1, 0, none⟩)) hF (by kernel_rfl) (fun _ => by kernel_rfl) rfl fun a hF => ?_
  refine eQL 18 1 0 (v := .int .i64 n) hF (by kernel_rfl) rfl rfl (by kernel_rfl) (by kernel_rfl) fun a hF => ?_
  refine eQ 19 (v0 := .bool (decide (n ≤ 1073741824))) (v := .bool true) hF (by kernel_rfl) (fun _ => by kernel_rfl) (bT (by omega)) fun a hF => ?_
  refine eQ 20 (v0 := .bool true) (v := .bool true) hF (by kernel_rfl) (fun _ => by kernel_rfl) rfl fun a hF => ?_
  refine eQ 21 (v0 := .bool true) (v := .bool true) hF (by kernel_rfl) (fun _ => by kernel_rfl) rfl fun a hF => ?_
  refine eQ 22 (v0 := .pointer (some ⟨bb1, 0, none⟩)) (v := .pointer (some ⟨bb1, 0, none⟩)) hF (by kernel_rfl) (fun _ => by kernel_rfl) rfl fun a hF => ?_
  refine eQL 23 1 0 (v := .int .i64 n) hF (by kernel_rfl) rfl rfl (by kernel_rfl) (by kernel_rfl) fun a hF => ?_
  refine eQ2 24 (v := .int .i64 (n.natAbs : Int)) hF (by kernel_rfl) (yld_call (f := 39) (args := #[.int .i64 n]) hF (by kernel_rfl) (fun _ => by kernel_rfl) (fun w hM => rabs2_w n w (by omega))) fun a hF => ?_
  refine eQ 25 (v0 := .pointer (some ⟨bb1, 1, none⟩)) (v := .pointer (some ⟨bb1, 1, none⟩)) hF (by kernel_rfl) (fun _ => by kernel_rfl) rfl fun a hF => ?_
  refine eQL 26 1 1 (v := .int .i64 d) hF (by kernel_rfl) rfl rfl (by kernel_rfl) (by kernel_rfl) fun a hF => ?_
  refine eQ2 27 (v := .int .i64 (rg n d)) hF (by kernel_rfl) (yld_call (f := 38) (args := #[.int .i64 (n.natAbs : Int), .int .i64 d]) hF (by kernel_rfl) (fun _ => by kernel_rfl) (fun w hM => (gcd_at (by omega) (rgcd_w n.natAbs d.natAbs w (by omega))))) fun a hF => ?_
  have hg := rg_pos (n := n) (d := d) (by omega)
  have hgl := rg_le (n := n) (d := d) (by omega)
  refine eQ 28 (v0 := .bool (decide (rg n d = 1))) (v := .bool (decide (rg n d = 1))) hF (by kernel_rfl) (fun _ => by kernel_rfl) rfl fun a hF => ?_
  refine eQ 29 (v0 := .bool (decide (rg n d = 1))) (v := .bool (decide (rg n d = 1))) hF (by kernel_rfl) (fun _ => by kernel_rfl) rfl fun a hF => ?_
  refine eQ 2 (v0 := .bool (decide (rg n d = 1))) (v := .bool (decide (rg n d = 1))) hF (by kernel_rfl) (fun _ => by kernel_rfl) rfl fun a hF => ?_
  refine wpQuiet_nil ?_
  intro w hM
  refine hK2 _ _ ?_
  refine wp_ret ?_
  refine hR0 _ _ ?_
  refine ret_of hF hM (.tmp rfl (.nil)) ?_
  exact ⟨ret_bool (decide_eq_true (by unfold rg; omega)), hM.bel⟩

theorem raRight_no (n d : Int) (w0 : World) (h : ¬ raE n d = 0) :
    Calls Tryd.prog 40 #[.agg #[.int .i64 n, .int .i64 d]] w0 (Ret w0 (.bool false)) := by
  have hr : ¬ (1 ≤ d ∧ d ≤ 1073741824 ∧ -1073741824 ≤ n ∧ n ≤ 1073741824 ∧ Nat.gcd n.natAbs d.natAbs = 1) := fun q => h (raE_yes q)
  refine enterK 30 Tryd.func40 rfl rfl rfl ?_
  intro a hF Q0 hR0 hN0
  have hM := Mem.start w0
  refine wp_seq_k fun K1 hK1 => ?_
  refine wp_region_lit ?_
  refine wl (eN 1 1 (t := 23) (fun b => .pointer (some ⟨b, 0, none⟩)) #[.int .i64 n, .int .i64 d] hF hM (by kernel_rfl) (fun _ => by kernel_rfl) fun bb1 a w hF hM => ?_)
  refine sB 1 [(2, .bool false)] hF (by kernel_rfl) fun a hF => ?_
  refine wpList_nil ?_
  refine hK1 _ _ ?_
  refine wp_seq_k fun K2 hK2 => ?_
  by_cases hz1 : 1 ≤ d
  · skip
    by_cases hz2 : d ≤ 1073741824
    · skip
      by_cases hz3 : -1073741824 ≤ n
      · skip
        by_cases hz4 : n ≤ 1073741824
        · skip
          refine rQ hM (by kernel_rfl) (by kernel_rfl) ?_
          refine eQ 3 (v0 := .pointer (some ⟨bb1, 1, none⟩)) (v := .pointer (some ⟨bb1, 1, none⟩)) hF (by kernel_rfl) (fun _ => by kernel_rfl) rfl fun a hF => ?_
          refine eQL 4 1 1 (v := .int .i64 d) hF (by kernel_rfl) rfl rfl (by kernel_rfl) (by kernel_rfl) fun a hF => ?_
          refine eQ 5 (v0 := .bool (decide (1 ≤ d))) (v := .bool true) hF (by kernel_rfl) (fun _ => by kernel_rfl) (bT hz1) fun a hF => ?_
          refine eQ 6 (v0 := .bool true) (v := .bool true) hF (by kernel_rfl) (fun _ => by kernel_rfl) rfl fun a hF => ?_
          refine eQ 7 (v0 := .pointer (some ⟨bb1, 1, none⟩)) (v := .pointer (some ⟨bb1, 1, none⟩)) hF (by kernel_rfl) (fun _ => by kernel_rfl) rfl fun a hF => ?_
          refine eQL 8 1 1 (v := .int .i64 d) hF (by kernel_rfl) rfl rfl (by kernel_rfl) (by kernel_rfl) fun a hF => ?_
          refine eQ 9 (v0 := .bool (decide (d ≤ 1073741824))) (v := .bool true) hF (by kernel_rfl) (fun _ => by kernel_rfl) (bT hz2) fun a hF => ?_
          refine eQ 10 (v0 := .bool true) (v := .bool true) hF (by kernel_rfl) (fun _ => by kernel_rfl) rfl fun a hF => ?_
          refine eQ 11 (v0 := .bool true) (v := .bool true) hF (by kernel_rfl) (fun _ => by kernel_rfl) rfl fun a hF => ?_
          refine eQ 12 (v0 := .pointer (some ⟨bb1, 0, none⟩)) (v := .pointer (some ⟨bb1, 0, none⟩)) hF (by kernel_rfl) (fun _ => by kernel_rfl) rfl fun a hF => ?_
          refine eQL 13 1 0 (v := .int .i64 n) hF (by kernel_rfl) rfl rfl (by kernel_rfl) (by kernel_rfl) fun a hF => ?_
          refine eQ 14 (v0 := .bool (decide (-1073741824 ≤ n))) (v := .bool true) hF (by kernel_rfl) (fun _ => by kernel_rfl) (bT hz3) fun a hF => ?_
          refine eQ 15 (v0 := .bool true) (v := .bool true) hF (by kernel_rfl) (fun _ => by kernel_rfl) rfl fun a hF => ?_
          refine eQ 16 (v0 := .bool true) (v := .bool true) hF (by kernel_rfl) (fun _ => by kernel_rfl) rfl fun a hF => ?_
          refine eQ 17 (v0 := .pointer (some ⟨bb1, 0, none⟩)) (v := .pointer (some ⟨bb1, 0, none⟩)) hF (by kernel_rfl) (fun _ => by kernel_rfl) rfl fun a hF => ?_
          refine eQL 18 1 0 (v := .int .i64 n) hF (by kernel_rfl) rfl rfl (by kernel_rfl) (by kernel_rfl) fun a hF => ?_
          refine eQ 19 (v0 := .bool (decide (n ≤ 1073741824))) (v := .bool true) hF (by kernel_rfl) (fun _ => by kernel_rfl) (bT hz4) fun a hF => ?_
          refine eQ 20 (v0 := .bool true) (v := .bool true) hF (by kernel_rfl) (fun _ => by kernel_rfl) rfl fun a hF => ?_
          refine eQ 21 (v0 := .bool true) (v := .bool true) hF (by kernel_rfl) (fun _ => by kernel_rfl) rfl fun a hF => ?_
          refine eQ 22 (v0 := .pointer (some ⟨bb1, 0, none⟩)) (v := .pointer (some ⟨bb1, 0, none⟩)) hF (by kernel_rfl) (fun _ => by kernel_rfl) rfl fun a hF => ?_
          refine eQL 23 1 0 (v := .int .i64 n) hF (by kernel_rfl) rfl rfl (by kernel_rfl) (by kernel_rfl) fun a hF => ?_
          refine eQ2 24 (v := .int .i64 (n.natAbs : Int)) hF (by kernel_rfl) (yld_call (f := 39) (args := #[.int .i64 n]) hF (by kernel_rfl) (fun _ => by kernel_rfl) (fun w hM => rabs2_w n w (by omega))) fun a hF => ?_
          refine eQ 25 (v0 := .pointer (some ⟨bb1, 1, none⟩)) (v := .pointer (some ⟨bb1, 1, none⟩)) hF (by kernel_rfl) (fun _ => by kernel_rfl) rfl fun a hF => ?_
          refine eQL 26 1 1 (v := .int .i64 d) hF (by kernel_rfl) rfl rfl (by kernel_rfl) (by kernel_rfl) fun a hF => ?_
          refine eQ2 27 (v := .int .i64 (rg n d)) hF (by kernel_rfl) (yld_call (f := 38) (args := #[.int .i64 (n.natAbs : Int), .int .i64 d]) hF (by kernel_rfl) (fun _ => by kernel_rfl) (fun w hM => (gcd_at (by omega) (rgcd_w n.natAbs d.natAbs w (by omega))))) fun a hF => ?_
          have hg := rg_pos (n := n) (d := d) (by omega)
          have hgl := rg_le (n := n) (d := d) (by omega)
          refine eQ 28 (v0 := .bool (decide (rg n d = 1))) (v := .bool (decide (rg n d = 1))) hF (by kernel_rfl) (fun _ => by kernel_rfl) rfl fun a hF => ?_
          refine eQ 29 (v0 := .bool (decide (rg n d = 1))) (v := .bool (decide (rg n d = 1))) hF (by kernel_rfl) (fun _ => by kernel_rfl) rfl fun a hF => ?_
          refine eQ 2 (v0 := .bool (decide (rg n d = 1))) (v := .bool (decide (rg n d = 1))) hF (by kernel_rfl) (fun _ => by kernel_rfl) rfl fun a hF => ?_
          refine wpQuiet_nil ?_
          intro w hM
          refine hK2 _ _ ?_
          refine wp_ret ?_
          refine hR0 _ _ ?_
          refine ret_of hF hM (.tmp rfl (.nil)) ?_
          exact ⟨ret_bool (decide_eq_false (by unfold rg; omega)), hM.bel⟩
        · skip
          refine rQ hM (by kernel_rfl) (by kernel_rfl) ?_
          refine eQ 3 (v0 := .pointer (some ⟨bb1, 1, none⟩)) (v := .pointer (some ⟨bb1, 1, none⟩)) hF (by kernel_rfl) (fun _ => by kernel_rfl) rfl fun a hF => ?_
          refine eQL 4 1 1 (v := .int .i64 d) hF (by kernel_rfl) rfl rfl (by kernel_rfl) (by kernel_rfl) fun a hF => ?_
          refine eQ 5 (v0 := .bool (decide (1 ≤ d))) (v := .bool true) hF (by kernel_rfl) (fun _ => by kernel_rfl) (bT hz1) fun a hF => ?_
          refine eQ 6 (v0 := .bool true) (v := .bool true) hF (by kernel_rfl) (fun _ => by kernel_rfl) rfl fun a hF => ?_
          refine eQ 7 (v0 := .pointer (some ⟨bb1, 1, none⟩)) (v := .pointer (some ⟨bb1, 1, none⟩)) hF (by kernel_rfl) (fun _ => by kernel_rfl) rfl fun a hF => ?_
          refine eQL 8 1 1 (v := .int .i64 d) hF (by kernel_rfl) rfl rfl (by kernel_rfl) (by kernel_rfl) fun a hF => ?_
          refine eQ 9 (v0 := .bool (decide (d ≤ 1073741824))) (v := .bool true) hF (by kernel_rfl) (fun _ => by kernel_rfl) (bT hz2) fun a hF => ?_
          refine eQ 10 (v0 := .bool true) (v := .bool true) hF (by kernel_rfl) (fun _ => by kernel_rfl) rfl fun a hF => ?_
          refine eQ 11 (v0 := .bool true) (v := .bool true) hF (by kernel_rfl) (fun _ => by kernel_rfl) rfl fun a hF => ?_
          refine eQ 12 (v0 := .pointer (some ⟨bb1, 0, none⟩)) (v := .pointer (some ⟨bb1, 0, none⟩)) hF (by kernel_rfl) (fun _ => by kernel_rfl) rfl fun a hF => ?_
          refine eQL 13 1 0 (v := .int .i64 n) hF (by kernel_rfl) rfl rfl (by kernel_rfl) (by kernel_rfl) fun a hF => ?_
          refine eQ 14 (v0 := .bool (decide (-1073741824 ≤ n))) (v := .bool true) hF (by kernel_rfl) (fun _ => by kernel_rfl) (bT hz3) fun a hF => ?_
          refine eQ 15 (v0 := .bool true) (v := .bool true) hF (by kernel_rfl) (fun _ => by kernel_rfl) rfl fun a hF => ?_
          refine eQ 16 (v0 := .bool true) (v := .bool true) hF (by kernel_rfl) (fun _ => by kernel_rfl) rfl fun a hF => ?_
          refine eQ 17 (v0 := .pointer (some ⟨bb1, 0, none⟩)) (v := .pointer (some ⟨bb1, 0, none⟩)) hF (by kernel_rfl) (fun _ => by kernel_rfl) rfl fun a hF => ?_
          refine eQL 18 1 0 (v := .int .i64 n) hF (by kernel_rfl) rfl rfl (by kernel_rfl) (by kernel_rfl) fun a hF => ?_
          refine eQ 19 (v0 := .bool (decide (n ≤ 1073741824))) (v := .bool false) hF (by kernel_rfl) (fun _ => by kernel_rfl) (bF hz4) fun a hF => ?_
          refine eQ 20 (v0 := .bool false) (v := .bool false) hF (by kernel_rfl) (fun _ => by kernel_rfl) rfl fun a hF => ?_
          refine eQ 21 (v0 := .bool false) (v := .bool false) hF (by kernel_rfl) (fun _ => by kernel_rfl) rfl fun a hF => ?_
          refine qSkip hF (by kernel_rfl) rfl (by decide) fun a hF => ?_
          refine qSkip hF (by kernel_rfl) rfl (by decide) fun a hF => ?_
          refine qSkip hF (by kernel_rfl) rfl (by decide) fun a hF => ?_
          refine qSkip hF (by kernel_rfl) rfl (by decide) fun a hF => ?_
          refine qSkip hF (by kernel_rfl) rfl (by decide) fun a hF => ?_
          refine qSkip hF (by kernel_rfl) rfl (by decide) fun a hF => ?_
          refine qSkip hF (by kernel_rfl) rfl (by decide) fun a hF => ?_
          refine eQ 29 (v0 := .bool false) (v := .bool false) hF (by kernel_rfl) (fun _ => by kernel_rfl) rfl fun a hF => ?_
          refine eQ 2 (v0 := .bool false) (v := .bool false) hF (by kernel_rfl) (fun _ => by kernel_rfl) rfl fun a hF => ?_
          refine wpQuiet_nil ?_
          intro w hM
          refine hK2 _ _ ?_
          refine wp_ret ?_
          refine hR0 _ _ ?_
          refine ret_of hF hM (.tmp rfl (.nil)) ?_
          exact ⟨rfl, hM.bel⟩
      · skip
        refine rQ hM (by kernel_rfl) (by kernel_rfl) ?_
        refine eQ 3 (v0 := .pointer (some ⟨bb1, 1, none⟩)) (v := .pointer (some ⟨bb1, 1, none⟩)) hF (by kernel_rfl) (fun _ => by kernel_rfl) rfl fun a hF => ?_
        refine eQL 4 1 1 (v := .int .i64 d) hF (by kernel_rfl) rfl rfl (by kernel_rfl) (by kernel_rfl) fun a hF => ?_
        refine eQ 5 (v0 := .bool (decide (1 ≤ d))) (v := .bool true) hF (by kernel_rfl) (fun _ => by kernel_rfl) (bT hz1) fun a hF => ?_
        refine eQ 6 (v0 := .bool true) (v := .bool true) hF (by kernel_rfl) (fun _ => by kernel_rfl) rfl fun a hF => ?_
        refine eQ 7 (v0 := .pointer (some ⟨bb1, 1, none⟩)) (v := .pointer (some ⟨bb1, 1, none⟩)) hF (by kernel_rfl) (fun _ => by kernel_rfl) rfl fun a hF => ?_
        refine eQL 8 1 1 (v := .int .i64 d) hF (by kernel_rfl) rfl rfl (by kernel_rfl) (by kernel_rfl) fun a hF => ?_
        refine eQ 9 (v0 := .bool (decide (d ≤ 1073741824))) (v := .bool true) hF (by kernel_rfl) (fun _ => by kernel_rfl) (bT hz2) fun a hF => ?_
        refine eQ 10 (v0 := .bool true) (v := .bool true) hF (by kernel_rfl) (fun _ => by kernel_rfl) rfl fun a hF => ?_
        refine eQ 11 (v0 := .bool true) (v := .bool true) hF (by kernel_rfl) (fun _ => by kernel_rfl) rfl fun a hF => ?_
        refine eQ 12 (v0 := .pointer (some ⟨bb1, 0, none⟩)) (v := .pointer (some ⟨bb1, 0, none⟩)) hF (by kernel_rfl) (fun _ => by kernel_rfl) rfl fun a hF => ?_
        refine eQL 13 1 0 (v := .int .i64 n) hF (by kernel_rfl) rfl rfl (by kernel_rfl) (by kernel_rfl) fun a hF => ?_
        refine eQ 14 (v0 := .bool (decide (-1073741824 ≤ n))) (v := .bool false) hF (by kernel_rfl) (fun _ => by kernel_rfl) (bF hz3) fun a hF => ?_
        refine eQ 15 (v0 := .bool false) (v := .bool false) hF (by kernel_rfl) (fun _ => by kernel_rfl) rfl fun a hF => ?_
        refine eQ 16 (v0 := .bool false) (v := .bool false) hF (by kernel_rfl) (fun _ => by kernel_rfl) rfl fun a hF => ?_
        refine qSkip hF (by kernel_rfl) rfl (by decide) fun a hF => ?_
        refine qSkip hF (by kernel_rfl) rfl (by decide) fun a hF => ?_
        refine qSkip hF (by kernel_rfl) rfl (by decide) fun a hF => ?_
        refine eQ 20 (v0 := .bool false) (v := .bool false) hF (by kernel_rfl) (fun _ => by kernel_rfl) rfl fun a hF => ?_
        refine eQ 21 (v0 := .bool false) (v := .bool false) hF (by kernel_rfl) (fun _ => by kernel_rfl) rfl fun a hF => ?_
        refine qSkip hF (by kernel_rfl) rfl (by decide) fun a hF => ?_
        refine qSkip hF (by kernel_rfl) rfl (by decide) fun a hF => ?_
        refine qSkip hF (by kernel_rfl) rfl (by decide) fun a hF => ?_
        refine qSkip hF (by kernel_rfl) rfl (by decide) fun a hF => ?_
        refine qSkip hF (by kernel_rfl) rfl (by decide) fun a hF => ?_
        refine qSkip hF (by kernel_rfl) rfl (by decide) fun a hF => ?_
        refine qSkip hF (by kernel_rfl) rfl (by decide) fun a hF => ?_
        refine eQ 29 (v0 := .bool false) (v := .bool false) hF (by kernel_rfl) (fun _ => by kernel_rfl) rfl fun a hF => ?_
        refine eQ 2 (v0 := .bool false) (v := .bool false) hF (by kernel_rfl) (fun _ => by kernel_rfl) rfl fun a hF => ?_
        refine wpQuiet_nil ?_
        intro w hM
        refine hK2 _ _ ?_
        refine wp_ret ?_
        refine hR0 _ _ ?_
        refine ret_of hF hM (.tmp rfl (.nil)) ?_
        exact ⟨rfl, hM.bel⟩
    · skip
      refine rQ hM (by kernel_rfl) (by kernel_rfl) ?_
      refine eQ 3 (v0 := .pointer (some ⟨bb1, 1, none⟩)) (v := .pointer (some ⟨bb1, 1, none⟩)) hF (by kernel_rfl) (fun _ => by kernel_rfl) rfl fun a hF => ?_
      refine eQL 4 1 1 (v := .int .i64 d) hF (by kernel_rfl) rfl rfl (by kernel_rfl) (by kernel_rfl) fun a hF => ?_
      refine eQ 5 (v0 := .bool (decide (1 ≤ d))) (v := .bool true) hF (by kernel_rfl) (fun _ => by kernel_rfl) (bT hz1) fun a hF => ?_
      refine eQ 6 (v0 := .bool true) (v := .bool true) hF (by kernel_rfl) (fun _ => by kernel_rfl) rfl fun a hF => ?_
      refine eQ 7 (v0 := .pointer (some ⟨bb1, 1, none⟩)) (v := .pointer (some ⟨bb1, 1, none⟩)) hF (by kernel_rfl) (fun _ => by kernel_rfl) rfl fun a hF => ?_
      refine eQL 8 1 1 (v := .int .i64 d) hF (by kernel_rfl) rfl rfl (by kernel_rfl) (by kernel_rfl) fun a hF => ?_
      refine eQ 9 (v0 := .bool (decide (d ≤ 1073741824))) (v := .bool false) hF (by kernel_rfl) (fun _ => by kernel_rfl) (bF hz2) fun a hF => ?_
      refine eQ 10 (v0 := .bool false) (v := .bool false) hF (by kernel_rfl) (fun _ => by kernel_rfl) rfl fun a hF => ?_
      refine eQ 11 (v0 := .bool false) (v := .bool false) hF (by kernel_rfl) (fun _ => by kernel_rfl) rfl fun a hF => ?_
      refine qSkip hF (by kernel_rfl) rfl (by decide) fun a hF => ?_
      refine qSkip hF (by kernel_rfl) rfl (by decide) fun a hF => ?_
      refine qSkip hF (by kernel_rfl) rfl (by decide) fun a hF => ?_
      refine eQ 15 (v0 := .bool false) (v := .bool false) hF (by kernel_rfl) (fun _ => by kernel_rfl) rfl fun a hF => ?_
      refine eQ 16 (v0 := .bool false) (v := .bool false) hF (by kernel_rfl) (fun _ => by kernel_rfl) rfl fun a hF => ?_
      refine qSkip hF (by kernel_rfl) rfl (by decide) fun a hF => ?_
      refine qSkip hF (by kernel_rfl) rfl (by decide) fun a hF => ?_
      refine qSkip hF (by kernel_rfl) rfl (by decide) fun a hF => ?_
      refine eQ 20 (v0 := .bool false) (v := .bool false) hF (by kernel_rfl) (fun _ => by kernel_rfl) rfl fun a hF => ?_
      refine eQ 21 (v0 := .bool false) (v := .bool false) hF (by kernel_rfl) (fun _ => by kernel_rfl) rfl fun a hF => ?_
      refine qSkip hF (by kernel_rfl) rfl (by decide) fun a hF => ?_
      refine qSkip hF (by kernel_rfl) rfl (by decide) fun a hF => ?_
      refine qSkip hF (by kernel_rfl) rfl (by decide) fun a hF => ?_
      refine qSkip hF (by kernel_rfl) rfl (by decide) fun a hF => ?_
      refine qSkip hF (by kernel_rfl) rfl (by decide) fun a hF => ?_
      refine qSkip hF (by kernel_rfl) rfl (by decide) fun a hF => ?_
      refine qSkip hF (by kernel_rfl) rfl (by decide) fun a hF => ?_
      refine eQ 29 (v0 := .bool false) (v := .bool false) hF (by kernel_rfl) (fun _ => by kernel_rfl) rfl fun a hF => ?_
      refine eQ 2 (v0 := .bool false) (v := .bool false) hF (by kernel_rfl) (fun _ => by kernel_rfl) rfl fun a hF => ?_
      refine wpQuiet_nil ?_
      intro w hM
      refine hK2 _ _ ?_
      refine wp_ret ?_
      refine hR0 _ _ ?_
      refine ret_of hF hM (.tmp rfl (.nil)) ?_
      exact ⟨rfl, hM.bel⟩
  · skip
    refine rQ hM (by kernel_rfl) (by kernel_rfl) ?_
    refine eQ 3 (v0 := .pointer (some ⟨bb1, 1, none⟩)) (v := .pointer (some ⟨bb1, 1, none⟩)) hF (by kernel_rfl) (fun _ => by kernel_rfl) rfl fun a hF => ?_
    refine eQL 4 1 1 (v := .int .i64 d) hF (by kernel_rfl) rfl rfl (by kernel_rfl) (by kernel_rfl) fun a hF => ?_
    refine eQ 5 (v0 := .bool (decide (1 ≤ d))) (v := .bool false) hF (by kernel_rfl) (fun _ => by kernel_rfl) (bF hz1) fun a hF => ?_
    refine eQ 6 (v0 := .bool false) (v := .bool false) hF (by kernel_rfl) (fun _ => by kernel_rfl) rfl fun a hF => ?_
    refine qSkip hF (by kernel_rfl) rfl (by decide) fun a hF => ?_
    refine qSkip hF (by kernel_rfl) rfl (by decide) fun a hF => ?_
    refine qSkip hF (by kernel_rfl) rfl (by decide) fun a hF => ?_
    refine eQ 10 (v0 := .bool false) (v := .bool false) hF (by kernel_rfl) (fun _ => by kernel_rfl) rfl fun a hF => ?_
    refine eQ 11 (v0 := .bool false) (v := .bool false) hF (by kernel_rfl) (fun _ => by kernel_rfl) rfl fun a hF => ?_
    refine qSkip hF (by kernel_rfl) rfl (by decide) fun a hF => ?_
    refine qSkip hF (by kernel_rfl) rfl (by decide) fun a hF => ?_
    refine qSkip hF (by kernel_rfl) rfl (by decide) fun a hF => ?_
    refine eQ 15 (v0 := .bool false) (v := .bool false) hF (by kernel_rfl) (fun _ => by kernel_rfl) rfl fun a hF => ?_
    refine eQ 16 (v0 := .bool false) (v := .bool false) hF (by kernel_rfl) (fun _ => by kernel_rfl) rfl fun a hF => ?_
    refine qSkip hF (by kernel_rfl) rfl (by decide) fun a hF => ?_
    refine qSkip hF (by kernel_rfl) rfl (by decide) fun a hF => ?_
    refine qSkip hF (by kernel_rfl) rfl (by decide) fun a hF => ?_
    refine eQ 20 (v0 := .bool false) (v := .bool false) hF (by kernel_rfl) (fun _ => by kernel_rfl) rfl fun a hF => ?_
    refine eQ 21 (v0 := .bool false) (v := .bool false) hF (by kernel_rfl) (fun _ => by kernel_rfl) rfl fun a hF => ?_
    refine qSkip hF (by kernel_rfl) rfl (by decide) fun a hF => ?_
    refine qSkip hF (by kernel_rfl) rfl (by decide) fun a hF => ?_
    refine qSkip hF (by kernel_rfl) rfl (by decide) fun a hF => ?_
    refine qSkip hF (by kernel_rfl) rfl (by decide) fun a hF => ?_
    refine qSkip hF (by kernel_rfl) rfl (by decide) fun a hF => ?_
    refine qSkip hF (by kernel_rfl) rfl (by decide) fun a hF => ?_
    refine qSkip hF (by kernel_rfl) rfl (by decide) fun a hF => ?_
    refine eQ 29 (v0 := .bool false) (v := .bool false) hF (by kernel_rfl) (fun _ => by kernel_rfl) rfl fun a hF => ?_
    refine eQ 2 (v0 := .bool false) (v := .bool false) hF (by kernel_rfl) (fun _ => by kernel_rfl) rfl fun a hF => ?_
    refine wpQuiet_nil ?_
    intro w hM
    refine hK2 _ _ ?_
    refine wp_ret ?_
    refine hR0 _ _ ?_
    refine ret_of hF hM (.tmp rfl (.nil)) ?_
    exact ⟨rfl, hM.bel⟩

theorem raRef_w (n d : Int) (w0 : World) :
    Calls Tryd.prog 13 #[.agg #[.int .i64 n, .int .i64 d]] w0 (Ret w0 (.int .i64 (raE n d))) := by
  refine enterK 6 Tryd.func13 rfl rfl rfl ?_
  intro a hF Q0 hR0 hN0
  have hM := Mem.start w0
  refine wp_seq_k fun K1 hK1 => ?_
  refine wp_region_lit ?_
  refine wl (eN 1 1 (t := 23) (fun b => .pointer (some ⟨b, 0, none⟩)) #[.int .i64 n, .int .i64 d] hF hM (by kernel_rfl) (fun _ => by kernel_rfl) fun bb1 a w hF hM => ?_)
  refine sB 1 [(2, .int .i64 0)] hF (by kernel_rfl) fun a hF => ?_
  refine wpList_nil ?_
  refine hK1 _ _ ?_
  refine wp_seq_k fun K2 hK2 => ?_
  refine wp_seq_k fun K3 hK3 => ?_
  by_cases hz1 : raE n d = 0
  · skip
    have hz2 := raE_ok hz1
    refine wp_region_lit ?_
    refine wl (eL 3 1 0 (v := .agg #[.int .i64 n, .int .i64 d]) hF hM (by kernel_rfl) rfl rfl (by kernel_rfl) (by kernel_rfl) fun a w hF hM => ?_)
    refine wl (eM 4 (v := .bool true) hF hM (by kernel_rfl) (yld_call (f := 40) (args := #[.agg #[.int .i64 n, .int .i64 d]]) hF (by kernel_rfl) (fun _ => by kernel_rfl) (fun w hM => raRight_yes n d w hz1)) fun a w hF hM => ?_)
    refine sB 1 [(5, .bool false)] hF (by kernel_rfl) fun a hF => ?_
    refine wpList_nil ?_
    refine hK3 _ _ ?_
    refine cF hF (by kernel_rfl) (by kernel_rfl) ?_
    refine wp_skip ?_
    refine hK2 _ _ ?_
    refine wp_seq_k fun K4 hK4 => ?_
    refine wp_region_lit ?_
    refine sB 1 [(2, .int .i64 0)] hF (by kernel_rfl) fun a hF => ?_
    refine wpList_nil ?_
    refine hK4 _ _ ?_
    refine wp_ret ?_
    refine hR0 _ _ ?_
    refine ret_of hF hM (.tmp rfl (.nil)) ?_
    exact ⟨ret_int (hz1).symm, hM.bel⟩
  · skip
    refine wp_region_lit ?_
    refine wl (eL 3 1 0 (v := .agg #[.int .i64 n, .int .i64 d]) hF hM (by kernel_rfl) rfl rfl (by kernel_rfl) (by kernel_rfl) fun a w hF hM => ?_)
    refine wl (eM 4 (v := .bool false) hF hM (by kernel_rfl) (yld_call (f := 40) (args := #[.agg #[.int .i64 n, .int .i64 d]]) hF (by kernel_rfl) (fun _ => by kernel_rfl) (fun w hM => raRight_no n d w hz1)) fun a w hF hM => ?_)
    refine sB 1 [(5, .bool true)] hF (by kernel_rfl) fun a hF => ?_
    refine wpList_nil ?_
    refine hK3 _ _ ?_
    refine cT hF (by kernel_rfl) (by kernel_rfl) ?_
    refine wp_seq_k fun K5 hK5 => ?_
    refine wp_region_lit ?_
    refine sB 1 [(2, .int .i64 120)] hF (by kernel_rfl) fun a hF => ?_
    refine wpList_nil ?_
    refine hK5 _ _ ?_
    refine wp_ret ?_
    refine hR0 _ _ ?_
    refine ret_of hF hM (.tmp rfl (.nil)) ?_
    exact ⟨ret_int (raE_no hz1).symm, hM.bel⟩

theorem raMakeR_w (n d : Int) (w0 : World) :
    Calls Tryd.prog 11 #[.int .i64 n, .int .i64 d] w0 (Ret w0 (.tuple #[.agg #[.int .i64 (rmN n d), .int .i64 (rmD n d)], .int .i64 (rmE n d)])) := by
  refine enterK 48 Tryd.func11 rfl rfl rfl ?_
  intro a hF Q0 hR0 hN0
  have hM := Mem.start w0
  refine wp_seq_k fun K1 hK1 => ?_
  refine wp_region_lit ?_
  refine wl (eN 4 1 (t := 23) (fun b => .pointer (some ⟨b, 0, none⟩)) #[.int .i64 0, .int .i64 0] hF hM (by kernel_rfl) (fun _ => by kernel_rfl) fun bb1 a w hF hM => ?_)
  refine sB 1 [(5, .int .i64 0)] hF (by kernel_rfl) fun a hF => ?_
  refine wpList_nil ?_
  refine hK1 _ _ ?_
  refine wp_seq_k fun K2 hK2 => ?_
  refine wp_seq_k fun K3 hK3 => ?_
  refine wp_region_lit ?_
  refine sB 2 [(8, .int .i64 d), (9, .bool (decide (d = 0)))] hF (by kernel_rfl) fun a hF => ?_
  refine wpList_nil ?_
  refine hK3 _ _ ?_
  by_cases hz1 : d = 0
  · skip
    replace hF := hF.c hF (i := 9) (v := .bool true) rfl (bT hz1)
    refine cT hF (by kernel_rfl) (by kernel_rfl) ?_
    refine wp_seq_k fun K4 hK4 => ?_
    refine wp_region_lit ?_
    refine sB 1 [(10, .agg #[.int .i64 0, .int .i64 0])] hF (by kernel_rfl) fun a hF => ?_
    refine wl (sStore (i := 1) (off := 0) (cs' := #[.int .i64 0, .int .i64 0]) hF hM (by kernel_rfl) rfl rfl (by kernel_rfl) (by kernel_rfl) rfl (by kernel_rfl) fun w hM => ?_)
    refine sB 1 [(5, .int .i64 2)] hF (by kernel_rfl) fun a hF => ?_
    refine wpList_nil ?_
    refine hK4 _ _ ?_
    refine wp_ret ?_
    refine hR0 _ _ ?_
    refine ret_of hF hM (.cell (i := 1) rfl rfl (v := .agg #[.int .i64 0, .int .i64 0]) (by kernel_rfl) (.tmp rfl (.nil))) ?_
    have hd := rm_2 (n := n) (d := d) (by omega)
    exact ⟨ret_eq (by rw [hd.1, hd.2.1, hd.2.2]; rfl), hM.bel⟩
  · skip
    replace hF := hF.c hF (i := 9) (v := .bool false) rfl (bF hz1)
    refine cF hF (by kernel_rfl) (by kernel_rfl) ?_
    refine wp_skip ?_
    refine hK2 _ _ ?_
    refine wp_seq_k fun K5 hK5 => ?_
    refine wp_seq_k fun K6 hK6 => ?_
    by_cases hz2 : 4611686018427387904 < n
    · skip
      refine wp_region_lit ?_
      refine sB 1 [(11, .int .i64 n)] hF (by kernel_rfl) fun a hF => ?_
      refine wl (eP 12 (v0 := .bool (decide (4611686018427387904 < n))) (v := .bool true) hF (by kernel_rfl) (fun _ => by kernel_rfl) (bT hz2) fun a hF => ?_)
      refine sB 12 [(13, .bool true), (14, undef), (15, undef), (16, .bool true), (17, .bool true), (18, undef), (19, undef), (20, .bool true), (21, .bool true), (22, undef), (23, undef), (24, .bool true)] hF (by kernel_rfl) fun a hF => ?_
      refine wpList_nil ?_
      refine hK6 _ _ ?_
      refine cT hF (by kernel_rfl) (by kernel_rfl) ?_
      refine wp_seq_k fun K7 hK7 => ?_
      refine wp_region_lit ?_
      refine sB 1 [(25, .agg #[.int .i64 0, .int .i64 0])] hF (by kernel_rfl) fun a hF => ?_
      refine wl (sStore (i := 1) (off := 0) (cs' := #[.int .i64 0, .int .i64 0]) hF hM (by kernel_rfl) rfl rfl (by kernel_rfl) (by kernel_rfl) rfl (by kernel_rfl) fun w hM => ?_)
      refine sB 1 [(5, .int .i64 6)] hF (by kernel_rfl) fun a hF => ?_
      refine wpList_nil ?_
      refine hK7 _ _ ?_
      refine wp_ret ?_
      refine hR0 _ _ ?_
      refine ret_of hF hM (.cell (i := 1) rfl rfl (v := .agg #[.int .i64 0, .int .i64 0]) (by kernel_rfl) (.tmp rfl (.nil))) ?_
      have hd := rm_6 (n := n) (d := d) (by omega) (by unfold wide; omega)
      exact ⟨ret_eq (by rw [hd.1, hd.2.1, hd.2.2]; rfl), hM.bel⟩
    · skip
      by_cases hz3 : n < -4611686018427387904
      · skip
        refine wp_region_lit ?_
        refine sB 1 [(11, .int .i64 n)] hF (by kernel_rfl) fun a hF => ?_
        refine wl (eP 12 (v0 := .bool (decide (4611686018427387904 < n))) (v := .bool false) hF (by kernel_rfl) (fun _ => by kernel_rfl) (bF hz2) fun a hF => ?_)
        refine sB 2 [(13, .bool false), (14, .int .i64 n)] hF (by kernel_rfl) fun a hF => ?_
        refine wl (eP 15 (v0 := .bool (decide (n < -4611686018427387904))) (v := .bool true) hF (by kernel_rfl) (fun _ => by kernel_rfl) (bT hz3) fun a hF => ?_)
        refine sB 9 [(16, .bool true), (17, .bool true), (18, undef), (19, undef), (20, .bool true), (21, .bool true), (22, undef), (23, undef), (24, .bool true)] hF (by kernel_rfl) fun a hF => ?_
        refine wpList_nil ?_
        refine hK6 _ _ ?_
        refine cT hF (by kernel_rfl) (by kernel_rfl) ?_
        refine wp_seq_k fun K8 hK8 => ?_
        refine wp_region_lit ?_
        refine sB 1 [(25, .agg #[.int .i64 0, .int .i64 0])] hF (by kernel_rfl) fun a hF => ?_
        refine wl (sStore (i := 1) (off := 0) (cs' := #[.int .i64 0, .int .i64 0]) hF hM (by kernel_rfl) rfl rfl (by kernel_rfl) (by kernel_rfl) rfl (by kernel_rfl) fun w hM => ?_)
        refine sB 1 [(5, .int .i64 6)] hF (by kernel_rfl) fun a hF => ?_
        refine wpList_nil ?_
        refine hK8 _ _ ?_
        refine wp_ret ?_
        refine hR0 _ _ ?_
        refine ret_of hF hM (.cell (i := 1) rfl rfl (v := .agg #[.int .i64 0, .int .i64 0]) (by kernel_rfl) (.tmp rfl (.nil))) ?_
        have hd := rm_6 (n := n) (d := d) (by omega) (by unfold wide; omega)
        exact ⟨ret_eq (by rw [hd.1, hd.2.1, hd.2.2]; rfl), hM.bel⟩
      · skip
        by_cases hz4 : 4611686018427387904 < d
        · skip
          refine wp_region_lit ?_
          refine sB 1 [(11, .int .i64 n)] hF (by kernel_rfl) fun a hF => ?_
          refine wl (eP 12 (v0 := .bool (decide (4611686018427387904 < n))) (v := .bool false) hF (by kernel_rfl) (fun _ => by kernel_rfl) (bF hz2) fun a hF => ?_)
          refine sB 2 [(13, .bool false), (14, .int .i64 n)] hF (by kernel_rfl) fun a hF => ?_
          refine wl (eP 15 (v0 := .bool (decide (n < -4611686018427387904))) (v := .bool false) hF (by kernel_rfl) (fun _ => by kernel_rfl) (bF hz3) fun a hF => ?_)
          refine sB 3 [(16, .bool false), (17, .bool false), (18, .int .i64 d)] hF (by kernel_rfl) fun a hF => ?_
          refine wl (eP 19 (v0 := .bool (decide (4611686018427387904 < d))) (v := .bool true) hF (by kernel_rfl) (fun _ => by kernel_rfl) (bT hz4) fun a hF => ?_)
          refine sB 5 [(20, .bool true), (21, .bool true), (22, undef), (23, undef), (24, .bool true)] hF (by kernel_rfl) fun a hF => ?_
          refine wpList_nil ?_
          refine hK6 _ _ ?_
          refine cT hF (by kernel_rfl) (by kernel_rfl) ?_
          refine wp_seq_k fun K9 hK9 => ?_
          refine wp_region_lit ?_
          refine sB 1 [(25, .agg #[.int .i64 0, .int .i64 0])] hF (by kernel_rfl) fun a hF => ?_
          refine wl (sStore (i := 1) (off := 0) (cs' := #[.int .i64 0, .int .i64 0]) hF hM (by kernel_rfl) rfl rfl (by kernel_rfl) (by kernel_rfl) rfl (by kernel_rfl) fun w hM => ?_)
          refine sB 1 [(5, .int .i64 6)] hF (by kernel_rfl) fun a hF => ?_
          refine wpList_nil ?_
          refine hK9 _ _ ?_
          refine wp_ret ?_
          refine hR0 _ _ ?_
          refine ret_of hF hM (.cell (i := 1) rfl rfl (v := .agg #[.int .i64 0, .int .i64 0]) (by kernel_rfl) (.tmp rfl (.nil))) ?_
          have hd := rm_6 (n := n) (d := d) (by omega) (by unfold wide; omega)
          exact ⟨ret_eq (by rw [hd.1, hd.2.1, hd.2.2]; rfl), hM.bel⟩
        · skip
          refine wp_region_lit ?_
          refine sB 1 [(11, .int .i64 n)] hF (by kernel_rfl) fun a hF => ?_
          refine wl (eP 12 (v0 := .bool (decide (4611686018427387904 < n))) (v := .bool false) hF (by kernel_rfl) (fun _ => by kernel_rfl) (bF hz2) fun a hF => ?_)
          refine sB 2 [(13, .bool false), (14, .int .i64 n)] hF (by kernel_rfl) fun a hF => ?_
          refine wl (eP 15 (v0 := .bool (decide (n < -4611686018427387904))) (v := .bool false) hF (by kernel_rfl) (fun _ => by kernel_rfl) (bF hz3) fun a hF => ?_)
          refine sB 3 [(16, .bool false), (17, .bool false), (18, .int .i64 d)] hF (by kernel_rfl) fun a hF => ?_
          refine wl (eP 19 (v0 := .bool (decide (4611686018427387904 < d))) (v := .bool false) hF (by kernel_rfl) (fun _ => by kernel_rfl) (bF hz4) fun a hF => ?_)
          refine sB 5 [(20, .bool false), (21, .bool false), (22, .int .i64 d), (23, .bool (decide (d < -4611686018427387904))), (24, .bool (decide (d < -4611686018427387904)))] hF (by kernel_rfl) fun a hF => ?_
          refine wpList_nil ?_
          refine hK6 _ _ ?_
          by_cases hz5 : d < -4611686018427387904
          · skip
            replace hF := hF.c hF (i := 23) (v := .bool true) rfl (bT hz5)
            replace hF := hF.c hF (i := 24) (v := .bool true) rfl (bT hz5)
            refine cT hF (by kernel_rfl) (by kernel_rfl) ?_
            refine wp_seq_k fun K10 hK10 => ?_
            refine wp_region_lit ?_
            refine sB 1 [(25, .agg #[.int .i64 0, .int .i64 0])] hF (by kernel_rfl) fun a hF => ?_
            refine wl (sStore (i := 1) (off := 0) (cs' := #[.int .i64 0, .int .i64 0]) hF hM (by kernel_rfl) rfl rfl (by kernel_rfl) (by kernel_rfl) rfl (by kernel_rfl) fun w hM => ?_)
            refine sB 1 [(5, .int .i64 6)] hF (by kernel_rfl) fun a hF => ?_
            refine wpList_nil ?_
            refine hK10 _ _ ?_
            refine wp_ret ?_
            refine hR0 _ _ ?_
            refine ret_of hF hM (.cell (i := 1) rfl rfl (v := .agg #[.int .i64 0, .int .i64 0]) (by kernel_rfl) (.tmp rfl (.nil))) ?_
            have hd := rm_6 (n := n) (d := d) (by omega) (by unfold wide; omega)
            exact ⟨ret_eq (by rw [hd.1, hd.2.1, hd.2.2]; rfl), hM.bel⟩
          · skip
            replace hF := hF.c hF (i := 23) (v := .bool false) rfl (bF hz5)
            replace hF := hF.c hF (i := 24) (v := .bool false) rfl (bF hz5)
            refine cF hF (by kernel_rfl) (by kernel_rfl) ?_
            refine wp_skip ?_
            refine hK5 _ _ ?_
            refine wp_seq_k fun K11 hK11 => ?_
            refine wp_seq_k fun K12 hK12 => ?_
            refine wp_region_lit ?_
            refine sB 2 [(26, .int .i64 d), (27, .bool (decide (d < 0)))] hF (by kernel_rfl) fun a hF => ?_
            refine wpList_nil ?_
            refine hK12 _ _ ?_
            by_cases hz6 : d < 0
            · skip
              replace hF := hF.c hF (i := 27) (v := .bool true) rfl (bT hz6)
              refine cT hF (by kernel_rfl) (by kernel_rfl) ?_
              refine wp_region_lit ?_
              refine sB 1 [(28, .int .i64 n)] hF (by kernel_rfl) fun a hF => ?_
              refine wl (eP 29 (v0 := .int .i64 (IntKind.i64.wrap (0 - n))) (v := .int .i64 (-n)) hF (by kernel_rfl) (fun _ => by kernel_rfl) (vi (by rw [Int.zero_sub]; exact (w64 (by omega)))) fun a hF => ?_)
              refine sB 1 [(30, .int .i64 d)] hF (by kernel_rfl) fun a hF => ?_
              refine wl (eP 31 (v0 := .int .i64 (IntKind.i64.wrap (0 - d))) (v := .int .i64 (-d)) hF (by kernel_rfl) (fun _ => by kernel_rfl) (vi (by rw [Int.zero_sub]; exact (w64 (by omega)))) fun a hF => ?_)
              refine sB 2 [(0, .int .i64 (-n)), (1, .int .i64 (-d))] hF (by kernel_rfl) fun a hF => ?_
              refine wpList_nil ?_
              refine hK11 _ _ ?_
              refine wp_seq_k fun K13 hK13 => ?_
              refine wp_region_lit ?_
              refine sB 1 [(32, .int .i64 (-n))] hF (by kernel_rfl) fun a hF => ?_
              refine wl (eM 33 (v := .int .i64 (n.natAbs : Int)) hF hM (by kernel_rfl) (yld_call (f := 39) (args := #[.int .i64 (-n)]) hF (by kernel_rfl) (fun _ => by kernel_rfl) (fun w hM => (by have q := rabs2_w (-n) w (by omega); rw [Int.natAbs_neg] at q; exact q))) fun a w hF hM => ?_)
              refine sB 1 [(34, .int .i64 (-d))] hF (by kernel_rfl) fun a hF => ?_
              refine wl (eM 35 (v := .int .i64 (rg n d)) hF hM (by kernel_rfl) (yld_call (f := 38) (args := #[.int .i64 (n.natAbs : Int), .int .i64 (-d)]) hF (by kernel_rfl) (fun _ => by kernel_rfl) (fun w hM => (gcd_at (by omega) (rgcd_w n.natAbs d.natAbs w (by omega))))) fun a w hF hM => ?_)
              have hg := rg_pos (n := n) (d := d) (by omega)
              have hgl := rg_le (n := n) (d := d) (by omega)
              refine sB 1 [(6, .int .i64 (rg n d))] hF (by kernel_rfl) fun a hF => ?_
              refine wpList_nil ?_
              refine hK13 _ _ ?_
              refine wp_seq_k fun K14 hK14 => ?_
              refine rF (by kernel_rfl) (by kernel_rfl) (fun S a w => ∃ bb2 : Nat, Fr 48 [(0, some (.int .i64 (-n))), (1, some (.int .i64 (-d))), (4, some (.pointer (some ⟨bb1, 0, none⟩))), (5, some (.int .i64 0)), (6, some (.int .i64 (rg n d))), (7, (cond (S.getD 7 false) (some (.pointer (some ⟨bb2, 0, none⟩))) none)), (36, (cond (S.getD 0 false) (some (.int .i64 (-n))) none)), (37, (cond (S.getD 1 false) (some (.int .i64 (rg n d))) none)), (38, (cond (S.getD 2 false) (some (.int .i64 (rN n d))) none)), (39, (cond (S.getD 3 false) (some (.int .i64 (-d))) none)), (40, (cond (S.getD 4 false) (some (.int .i64 (rg n d))) none)), (41, (cond (S.getD 5 false) (some (.int .i64 (rD n d))) none)), (42, (cond (S.getD 6 false) (some (.agg #[.int .i64 (rN n d), .int .i64 (rD n d)])) none))] a ∧ Mem w0.heap.size w0 [(1, some (.row bb1 23 #[.int .i64 0, .int .i64 0])), (2, (cond (S.getD 8 false) (some (.row bb2 23 #[.int .i64 (rN n d), .int .i64 (rD n d)])) (cond (S.getD 7 false) (some (.row bb2 23 #[.int .i64 0, .int .i64 0])) none)))] w) ?_ ?_ ?_
              · exact ⟨0, ((((((((((((((Fr.nil hF).co hF (i := 42) (by kernel_rfl)).co hF (i := 41) (by kernel_rfl)).co hF (i := 40) (by kernel_rfl)).co hF (i := 39) (by kernel_rfl)).co hF (i := 38) (by kernel_rfl)).co hF (i := 37) (by kernel_rfl)).co hF (i := 36) (by kernel_rfl)).co hF (i := 7) (by kernel_rfl)).co hF (i := 6) (by kernel_rfl)).co hF (i := 5) (by kernel_rfl)).co hF (i := 4) (by kernel_rfl)).co hF (i := 1) (by kernel_rfl)).co hF (i := 0) (by kernel_rfl)), hM.drew.sub ((Sub.nil.co (k := 2) (by kernel_rfl)).co (k := 1) (by kernel_rfl))⟩
              · refine stC ?_ (stC ?_ (stC ?_ (stC ?_ (stC ?_ (stC ?_ (stC ?_ (stC ?_ (stC ?_ (trivial)))))))))
                · intro s0 s1 s2 s3 s4 s5 s6 s7 s8 hc hi hp a w hS
                  obtain rfl : s0 = false := hi
                  obtain ⟨bb2, hF, hM⟩ := hS
                  refine eP 36 (v0 := .int .i64 (-n)) (v := .int .i64 (-n)) hF (by kernel_rfl) (fun _ => by kernel_rfl) rfl fun a hF => ?_
                  exact ⟨bb2, ((hF.repl 6 (by kernel_rfl)).cast (by kernel_rfl)), (hM.cast (by kernel_rfl))⟩
                · intro s0 s1 s2 s3 s4 s5 s6 s7 s8 hc hi hp a w hS
                  obtain rfl : s1 = false := hi
                  obtain ⟨bb2, hF, hM⟩ := hS
                  refine eP 37 (v0 := .int .i64 (rg n d)) (v := .int .i64 (rg n d)) hF (by kernel_rfl) (fun _ => by kernel_rfl) rfl fun a hF => ?_
                  exact ⟨bb2, ((hF.repl 7 (by kernel_rfl)).cast (by kernel_rfl)), (hM.cast (by kernel_rfl))⟩
                · intro s0 s1 s2 s3 s4 s5 s6 s7 s8 hc hi hp a w hS
                  obtain rfl : s2 = false := hi
                  obtain rfl : s1 = true := hp 1 (by kernel_rfl)
                  obtain rfl : s0 = true := hp 0 (by kernel_rfl)
                  obtain ⟨bb2, hF, hM⟩ := hS
                  refine eM 38 (v := .int .i64 (rN n d)) hF hM (by kernel_rfl) (yld_quo (-n) (rg n d) hF rfl (by kernel_rfl) (by kernel_rfl) (by kernel_rfl) (by omega) ((qany (by omega) (by omega)).trans (quo_ref hz6).1)) fun a w hF hM => ?_
                  exact ⟨bb2, ((hF.repl 8 (by kernel_rfl)).cast (by kernel_rfl)), (hM.cast (by kernel_rfl))⟩
                · intro s0 s1 s2 s3 s4 s5 s6 s7 s8 hc hi hp a w hS
                  obtain rfl : s3 = false := hi
                  obtain ⟨bb2, hF, hM⟩ := hS
                  refine eP 39 (v0 := .int .i64 (-d)) (v := .int .i64 (-d)) hF (by kernel_rfl) (fun _ => by kernel_rfl) rfl fun a hF => ?_
                  exact ⟨bb2, ((hF.repl 9 (by kernel_rfl)).cast (by kernel_rfl)), (hM.cast (by kernel_rfl))⟩
                · intro s0 s1 s2 s3 s4 s5 s6 s7 s8 hc hi hp a w hS
                  obtain rfl : s4 = false := hi
                  obtain ⟨bb2, hF, hM⟩ := hS
                  refine eP 40 (v0 := .int .i64 (rg n d)) (v := .int .i64 (rg n d)) hF (by kernel_rfl) (fun _ => by kernel_rfl) rfl fun a hF => ?_
                  exact ⟨bb2, ((hF.repl 10 (by kernel_rfl)).cast (by kernel_rfl)), (hM.cast (by kernel_rfl))⟩
                · intro s0 s1 s2 s3 s4 s5 s6 s7 s8 hc hi hp a w hS
                  obtain rfl : s5 = false := hi
                  obtain rfl : s4 = true := hp 4 (by kernel_rfl)
                  obtain rfl : s3 = true := hp 3 (by kernel_rfl)
                  obtain ⟨bb2, hF, hM⟩ := hS
                  refine eM 41 (v := .int .i64 (rD n d)) hF hM (by kernel_rfl) (yld_quo (-d) (rg n d) hF rfl (by kernel_rfl) (by kernel_rfl) (by kernel_rfl) (by omega) ((qany (by omega) (by omega)).trans (quo_ref hz6).2)) fun a w hF hM => ?_
                  exact ⟨bb2, ((hF.repl 11 (by kernel_rfl)).cast (by kernel_rfl)), (hM.cast (by kernel_rfl))⟩
                · intro s0 s1 s2 s3 s4 s5 s6 s7 s8 hc hi hp a w hS
                  obtain rfl : s6 = false := hi
                  obtain rfl : s5 = true := hp 5 (by kernel_rfl)
                  obtain rfl : s2 = true := hp 2 (by kernel_rfl)
                  obtain ⟨bb2, hF, hM⟩ := hS
                  refine eP 42 (v0 := .agg #[.int .i64 (rN n d), .int .i64 (rD n d)]) (v := .agg #[.int .i64 (rN n d), .int .i64 (rD n d)]) hF (by kernel_rfl) (fun _ => by kernel_rfl) rfl fun a hF => ?_
                  exact ⟨bb2, ((hF.repl 12 (by kernel_rfl)).cast (by kernel_rfl)), (hM.cast (by kernel_rfl))⟩
                · intro s0 s1 s2 s3 s4 s5 s6 s7 s8 hc hi hp a w hS
                  obtain rfl : s7 = false := hi
                  obtain rfl : s8 = false := hc.f 8 7 (by kernel_rfl) rfl
                  obtain ⟨bb2, hF, hM⟩ := hS
                  refine eN 7 2 (t := 23) (fun b => .pointer (some ⟨b, 0, none⟩)) #[.int .i64 0, .int .i64 0] hF hM (by kernel_rfl) (fun _ => by kernel_rfl) fun bb2 a w hF hM => ?_
                  exact ⟨bb2, ((hF.repl 5 (by kernel_rfl)).cast (by kernel_rfl)), ((hM.repl 1 (by kernel_rfl)).cast (by kernel_rfl))⟩
                · intro s0 s1 s2 s3 s4 s5 s6 s7 s8 hc hi hp a w hS
                  obtain rfl : s8 = false := hi
                  obtain rfl : s7 = true := hp 7 (by kernel_rfl)
                  obtain rfl : s6 = true := hp 6 (by kernel_rfl)
                  obtain ⟨bb2, hF, hM⟩ := hS
                  refine sStore (i := 2) (off := 0) (cs' := #[.int .i64 (rN n d), .int .i64 (rD n d)]) hF hM (by kernel_rfl) rfl rfl (by kernel_rfl) (by kernel_rfl) rfl (by kernel_rfl) fun w hM => ?_
                  exact ⟨bb2, (hF.cast (by kernel_rfl)), ((hM.repl 1 (by kernel_rfl)).cast (by kernel_rfl))⟩
              · intro a w hS
                obtain ⟨bb2, hF, hM⟩ := hS
                replace hF : Fr 48 [(0, some (.int .i64 (-n))), (1, some (.int .i64 (-d))), (4, some (.pointer (some ⟨bb1, 0, none⟩))), (5, some (.int .i64 0)), (6, some (.int .i64 (rg n d))), (7, some (.pointer (some ⟨bb2, 0, none⟩))), (36, some (.int .i64 (-n))), (37, some (.int .i64 (rg n d))), (38, some (.int .i64 (rN n d))), (39, some (.int .i64 (-d))), (40, some (.int .i64 (rg n d))), (41, some (.int .i64 (rD n d))), (42, some (.agg #[.int .i64 (rN n d), .int .i64 (rD n d)]))] a := hF.cast (by kernel_rfl)
                replace hM : Mem w0.heap.size w0 [(1, some (.row bb1 23 #[.int .i64 0, .int .i64 0])), (2, some (.row bb2 23 #[.int .i64 (rN n d), .int .i64 (rD n d)]))] w := hM.cast (by kernel_rfl)
                refine hK14 _ _ ?_
                refine wp_seq_k fun K15 hK15 => ?_
                refine wp_seq_k fun K16 hK16 => ?_
                by_cases hz7 : raE (rN n d) (rD n d) = 0
                · skip
                  have hz8 := raE_ok hz7
                  refine wp_region_lit ?_
                  refine wl (eL 43 2 0 (v := .agg #[.int .i64 (rN n d), .int .i64 (rD n d)]) hF hM (by kernel_rfl) rfl rfl (by kernel_rfl) (by kernel_rfl) fun a w hF hM => ?_)
                  refine wl (eM 44 (v := .bool true) hF hM (by kernel_rfl) (yld_call (f := 40) (args := #[.agg #[.int .i64 (rN n d), .int .i64 (rD n d)]]) hF (by kernel_rfl) (fun _ => by kernel_rfl) (fun w hM => raRight_yes (rN n d) (rD n d) w hz7)) fun a w hF hM => ?_)
                  refine sB 1 [(45, .bool false)] hF (by kernel_rfl) fun a hF => ?_
                  refine wpList_nil ?_
                  refine hK16 _ _ ?_
                  refine cF hF (by kernel_rfl) (by kernel_rfl) ?_
                  refine wp_skip ?_
                  refine hK15 _ _ ?_
                  refine wp_seq_k fun K17 hK17 => ?_
                  refine wp_region_lit ?_
                  refine wl (eL 47 2 0 (v := .agg #[.int .i64 (rN n d), .int .i64 (rD n d)]) hF hM (by kernel_rfl) rfl rfl (by kernel_rfl) (by kernel_rfl) fun a w hF hM => ?_)
                  refine wl (sStore (i := 1) (off := 0) (cs' := #[.int .i64 (rN n d), .int .i64 (rD n d)]) hF hM (by kernel_rfl) rfl rfl (by kernel_rfl) (by kernel_rfl) rfl (by kernel_rfl) fun w hM => ?_)
                  refine sB 1 [(5, .int .i64 0)] hF (by kernel_rfl) fun a hF => ?_
                  refine wpList_nil ?_
                  refine hK17 _ _ ?_
                  refine wp_ret ?_
                  refine hR0 _ _ ?_
                  refine ret_of hF hM (.cell (i := 1) rfl rfl (v := .agg #[.int .i64 (rN n d), .int .i64 (rD n d)]) (by kernel_rfl) (.tmp rfl (.nil))) ?_
                  have hd := rm_0 (n := n) (d := d) (by omega) (by unfold wide; omega) hz7
                  exact ⟨ret_eq (by rw [hd.1, hd.2.1, hd.2.2]; rfl), hM.bel⟩
                · skip
                  refine wp_region_lit ?_
                  refine wl (eL 43 2 0 (v := .agg #[.int .i64 (rN n d), .int .i64 (rD n d)]) hF hM (by kernel_rfl) rfl rfl (by kernel_rfl) (by kernel_rfl) fun a w hF hM => ?_)
                  refine wl (eM 44 (v := .bool false) hF hM (by kernel_rfl) (yld_call (f := 40) (args := #[.agg #[.int .i64 (rN n d), .int .i64 (rD n d)]]) hF (by kernel_rfl) (fun _ => by kernel_rfl) (fun w hM => raRight_no (rN n d) (rD n d) w hz7)) fun a w hF hM => ?_)
                  refine sB 1 [(45, .bool true)] hF (by kernel_rfl) fun a hF => ?_
                  refine wpList_nil ?_
                  refine hK16 _ _ ?_
                  refine cT hF (by kernel_rfl) (by kernel_rfl) ?_
                  refine wp_seq_k fun K18 hK18 => ?_
                  refine wp_region_lit ?_
                  refine sB 1 [(46, .agg #[.int .i64 0, .int .i64 0])] hF (by kernel_rfl) fun a hF => ?_
                  refine wl (sStore (i := 1) (off := 0) (cs' := #[.int .i64 0, .int .i64 0]) hF hM (by kernel_rfl) rfl rfl (by kernel_rfl) (by kernel_rfl) rfl (by kernel_rfl) fun w hM => ?_)
                  refine sB 1 [(5, .int .i64 6)] hF (by kernel_rfl) fun a hF => ?_
                  refine wpList_nil ?_
                  refine hK18 _ _ ?_
                  refine wp_ret ?_
                  refine hR0 _ _ ?_
                  refine ret_of hF hM (.cell (i := 1) rfl rfl (v := .agg #[.int .i64 0, .int .i64 0]) (by kernel_rfl) (.tmp rfl (.nil))) ?_
                  have hd := rm_66 (n := n) (d := d) (by omega) (by unfold wide; omega) hz7
                  exact ⟨ret_eq (by rw [hd.1, hd.2.1, hd.2.2]; rfl), hM.bel⟩
            · skip
              replace hF := hF.c hF (i := 27) (v := .bool false) rfl (bF hz6)
              refine cF hF (by kernel_rfl) (by kernel_rfl) ?_
              refine wp_skip ?_
              refine hK11 _ _ ?_
              refine wp_seq_k fun K19 hK19 => ?_
              refine wp_region_lit ?_
              refine sB 1 [(32, .int .i64 n)] hF (by kernel_rfl) fun a hF => ?_
              refine wl (eM 33 (v := .int .i64 (n.natAbs : Int)) hF hM (by kernel_rfl) (yld_call (f := 39) (args := #[.int .i64 n]) hF (by kernel_rfl) (fun _ => by kernel_rfl) (fun w hM => rabs2_w n w (by omega))) fun a w hF hM => ?_)
              refine sB 1 [(34, .int .i64 d)] hF (by kernel_rfl) fun a hF => ?_
              refine wl (eM 35 (v := .int .i64 (rg n d)) hF hM (by kernel_rfl) (yld_call (f := 38) (args := #[.int .i64 (n.natAbs : Int), .int .i64 d]) hF (by kernel_rfl) (fun _ => by kernel_rfl) (fun w hM => (gcd_at (by omega) (rgcd_w n.natAbs d.natAbs w (by omega))))) fun a w hF hM => ?_)
              have hg := rg_pos (n := n) (d := d) (by omega)
              have hgl := rg_le (n := n) (d := d) (by omega)
              refine sB 1 [(6, .int .i64 (rg n d))] hF (by kernel_rfl) fun a hF => ?_
              refine wpList_nil ?_
              refine hK19 _ _ ?_
              refine wp_seq_k fun K20 hK20 => ?_
              refine rF (by kernel_rfl) (by kernel_rfl) (fun S a w => ∃ bb3 : Nat, Fr 48 [(0, some (.int .i64 n)), (1, some (.int .i64 d)), (4, some (.pointer (some ⟨bb1, 0, none⟩))), (5, some (.int .i64 0)), (6, some (.int .i64 (rg n d))), (7, (cond (S.getD 7 false) (some (.pointer (some ⟨bb3, 0, none⟩))) none)), (36, (cond (S.getD 0 false) (some (.int .i64 n)) none)), (37, (cond (S.getD 1 false) (some (.int .i64 (rg n d))) none)), (38, (cond (S.getD 2 false) (some (.int .i64 (rN n d))) none)), (39, (cond (S.getD 3 false) (some (.int .i64 d)) none)), (40, (cond (S.getD 4 false) (some (.int .i64 (rg n d))) none)), (41, (cond (S.getD 5 false) (some (.int .i64 (rD n d))) none)), (42, (cond (S.getD 6 false) (some (.agg #[.int .i64 (rN n d), .int .i64 (rD n d)])) none))] a ∧ Mem w0.heap.size w0 [(1, some (.row bb1 23 #[.int .i64 0, .int .i64 0])), (3, (cond (S.getD 8 false) (some (.row bb3 23 #[.int .i64 (rN n d), .int .i64 (rD n d)])) (cond (S.getD 7 false) (some (.row bb3 23 #[.int .i64 0, .int .i64 0])) none)))] w) ?_ ?_ ?_
              · exact ⟨0, ((((((((((((((Fr.nil hF).co hF (i := 42) (by kernel_rfl)).co hF (i := 41) (by kernel_rfl)).co hF (i := 40) (by kernel_rfl)).co hF (i := 39) (by kernel_rfl)).co hF (i := 38) (by kernel_rfl)).co hF (i := 37) (by kernel_rfl)).co hF (i := 36) (by kernel_rfl)).co hF (i := 7) (by kernel_rfl)).co hF (i := 6) (by kernel_rfl)).co hF (i := 5) (by kernel_rfl)).co hF (i := 4) (by kernel_rfl)).co hF (i := 1) (by kernel_rfl)).co hF (i := 0) (by kernel_rfl)), hM.drew.sub ((Sub.nil.co (k := 3) (by kernel_rfl)).co (k := 1) (by kernel_rfl))⟩
              · refine stC ?_ (stC ?_ (stC ?_ (stC ?_ (stC ?_ (stC ?_ (stC ?_ (stC ?_ (stC ?_ (trivial)))))))))
                · intro s0 s1 s2 s3 s4 s5 s6 s7 s8 hc hi hp a w hS
                  obtain rfl : s0 = false := hi
                  obtain ⟨bb3, hF, hM⟩ := hS
                  refine eP 36 (v0 := .int .i64 n) (v := .int .i64 n) hF (by kernel_rfl) (fun _ => by kernel_rfl) rfl fun a hF => ?_
                  exact ⟨bb3, ((hF.repl 6 (by kernel_rfl)).cast (by kernel_rfl)), (hM.cast (by kernel_rfl))⟩
                · intro s0 s1 s2 s3 s4 s5 s6 s7 s8 hc hi hp a w hS
                  obtain rfl : s1 = false := hi
                  obtain ⟨bb3, hF, hM⟩ := hS
                  refine eP 37 (v0 := .int .i64 (rg n d)) (v := .int .i64 (rg n d)) hF (by kernel_rfl) (fun _ => by kernel_rfl) rfl fun a hF => ?_
                  exact ⟨bb3, ((hF.repl 7 (by kernel_rfl)).cast (by kernel_rfl)), (hM.cast (by kernel_rfl))⟩
                · intro s0 s1 s2 s3 s4 s5 s6 s7 s8 hc hi hp a w hS
                  obtain rfl : s2 = false := hi
                  obtain rfl : s1 = true := hp 1 (by kernel_rfl)
                  obtain rfl : s0 = true := hp 0 (by kernel_rfl)
                  obtain ⟨bb3, hF, hM⟩ := hS
                  refine eM 38 (v := .int .i64 (rN n d)) hF hM (by kernel_rfl) (yld_quo n (rg n d) hF rfl (by kernel_rfl) (by kernel_rfl) (by kernel_rfl) (by omega) ((qany (by omega) (by omega)).trans (quo_pos hz6).1)) fun a w hF hM => ?_
                  exact ⟨bb3, ((hF.repl 8 (by kernel_rfl)).cast (by kernel_rfl)), (hM.cast (by kernel_rfl))⟩
                · intro s0 s1 s2 s3 s4 s5 s6 s7 s8 hc hi hp a w hS
                  obtain rfl : s3 = false := hi
                  obtain ⟨bb3, hF, hM⟩ := hS
                  refine eP 39 (v0 := .int .i64 d) (v := .int .i64 d) hF (by kernel_rfl) (fun _ => by kernel_rfl) rfl fun a hF => ?_
                  exact ⟨bb3, ((hF.repl 9 (by kernel_rfl)).cast (by kernel_rfl)), (hM.cast (by kernel_rfl))⟩
                · intro s0 s1 s2 s3 s4 s5 s6 s7 s8 hc hi hp a w hS
                  obtain rfl : s4 = false := hi
                  obtain ⟨bb3, hF, hM⟩ := hS
                  refine eP 40 (v0 := .int .i64 (rg n d)) (v := .int .i64 (rg n d)) hF (by kernel_rfl) (fun _ => by kernel_rfl) rfl fun a hF => ?_
                  exact ⟨bb3, ((hF.repl 10 (by kernel_rfl)).cast (by kernel_rfl)), (hM.cast (by kernel_rfl))⟩
                · intro s0 s1 s2 s3 s4 s5 s6 s7 s8 hc hi hp a w hS
                  obtain rfl : s5 = false := hi
                  obtain rfl : s4 = true := hp 4 (by kernel_rfl)
                  obtain rfl : s3 = true := hp 3 (by kernel_rfl)
                  obtain ⟨bb3, hF, hM⟩ := hS
                  refine eM 41 (v := .int .i64 (rD n d)) hF hM (by kernel_rfl) (yld_quo d (rg n d) hF rfl (by kernel_rfl) (by kernel_rfl) (by kernel_rfl) (by omega) ((qany (by omega) (by omega)).trans (quo_pos hz6).2)) fun a w hF hM => ?_
                  exact ⟨bb3, ((hF.repl 11 (by kernel_rfl)).cast (by kernel_rfl)), (hM.cast (by kernel_rfl))⟩
                · intro s0 s1 s2 s3 s4 s5 s6 s7 s8 hc hi hp a w hS
                  obtain rfl : s6 = false := hi
                  obtain rfl : s5 = true := hp 5 (by kernel_rfl)
                  obtain rfl : s2 = true := hp 2 (by kernel_rfl)
                  obtain ⟨bb3, hF, hM⟩ := hS
                  refine eP 42 (v0 := .agg #[.int .i64 (rN n d), .int .i64 (rD n d)]) (v := .agg #[.int .i64 (rN n d), .int .i64 (rD n d)]) hF (by kernel_rfl) (fun _ => by kernel_rfl) rfl fun a hF => ?_
                  exact ⟨bb3, ((hF.repl 12 (by kernel_rfl)).cast (by kernel_rfl)), (hM.cast (by kernel_rfl))⟩
                · intro s0 s1 s2 s3 s4 s5 s6 s7 s8 hc hi hp a w hS
                  obtain rfl : s7 = false := hi
                  obtain rfl : s8 = false := hc.f 8 7 (by kernel_rfl) rfl
                  obtain ⟨bb3, hF, hM⟩ := hS
                  refine eN 7 3 (t := 23) (fun b => .pointer (some ⟨b, 0, none⟩)) #[.int .i64 0, .int .i64 0] hF hM (by kernel_rfl) (fun _ => by kernel_rfl) fun bb3 a w hF hM => ?_
                  exact ⟨bb3, ((hF.repl 5 (by kernel_rfl)).cast (by kernel_rfl)), ((hM.repl 1 (by kernel_rfl)).cast (by kernel_rfl))⟩
                · intro s0 s1 s2 s3 s4 s5 s6 s7 s8 hc hi hp a w hS
                  obtain rfl : s8 = false := hi
                  obtain rfl : s7 = true := hp 7 (by kernel_rfl)
                  obtain rfl : s6 = true := hp 6 (by kernel_rfl)
                  obtain ⟨bb3, hF, hM⟩ := hS
                  refine sStore (i := 3) (off := 0) (cs' := #[.int .i64 (rN n d), .int .i64 (rD n d)]) hF hM (by kernel_rfl) rfl rfl (by kernel_rfl) (by kernel_rfl) rfl (by kernel_rfl) fun w hM => ?_
                  exact ⟨bb3, (hF.cast (by kernel_rfl)), ((hM.repl 1 (by kernel_rfl)).cast (by kernel_rfl))⟩
              · intro a w hS
                obtain ⟨bb3, hF, hM⟩ := hS
                replace hF : Fr 48 [(0, some (.int .i64 n)), (1, some (.int .i64 d)), (4, some (.pointer (some ⟨bb1, 0, none⟩))), (5, some (.int .i64 0)), (6, some (.int .i64 (rg n d))), (7, some (.pointer (some ⟨bb3, 0, none⟩))), (36, some (.int .i64 n)), (37, some (.int .i64 (rg n d))), (38, some (.int .i64 (rN n d))), (39, some (.int .i64 d)), (40, some (.int .i64 (rg n d))), (41, some (.int .i64 (rD n d))), (42, some (.agg #[.int .i64 (rN n d), .int .i64 (rD n d)]))] a := hF.cast (by kernel_rfl)
                replace hM : Mem w0.heap.size w0 [(1, some (.row bb1 23 #[.int .i64 0, .int .i64 0])), (3, some (.row bb3 23 #[.int .i64 (rN n d), .int .i64 (rD n d)]))] w := hM.cast (by kernel_rfl)
                refine hK20 _ _ ?_
                refine wp_seq_k fun K21 hK21 => ?_
                refine wp_seq_k fun K22 hK22 => ?_
                by_cases hz9 : raE (rN n d) (rD n d) = 0
                · skip
                  have hz10 := raE_ok hz9
                  refine wp_region_lit ?_
                  refine wl (eL 43 3 0 (v := .agg #[.int .i64 (rN n d), .int .i64 (rD n d)]) hF hM (by kernel_rfl) rfl rfl (by kernel_rfl) (by kernel_rfl) fun a w hF hM => ?_)
                  refine wl (eM 44 (v := .bool true) hF hM (by kernel_rfl) (yld_call (f := 40) (args := #[.agg #[.int .i64 (rN n d), .int .i64 (rD n d)]]) hF (by kernel_rfl) (fun _ => by kernel_rfl) (fun w hM => raRight_yes (rN n d) (rD n d) w hz9)) fun a w hF hM => ?_)
                  refine sB 1 [(45, .bool false)] hF (by kernel_rfl) fun a hF => ?_
                  refine wpList_nil ?_
                  refine hK22 _ _ ?_
                  refine cF hF (by kernel_rfl) (by kernel_rfl) ?_
                  refine wp_skip ?_
                  refine hK21 _ _ ?_
                  refine wp_seq_k fun K23 hK23 => ?_
                  refine wp_region_lit ?_
                  refine wl (eL 47 3 0 (v := .agg #[.int .i64 (rN n d), .int .i64 (rD n d)]) hF hM (by kernel_rfl) rfl rfl (by kernel_rfl) (by kernel_rfl) fun a w hF hM => ?_)
                  refine wl (sStore (i := 1) (off := 0) (cs' := #[.int .i64 (rN n d), .int .i64 (rD n d)]) hF hM (by kernel_rfl) rfl rfl (by kernel_rfl) (by kernel_rfl) rfl (by kernel_rfl) fun w hM => ?_)
                  refine sB 1 [(5, .int .i64 0)] hF (by kernel_rfl) fun a hF => ?_
                  refine wpList_nil ?_
                  refine hK23 _ _ ?_
                  refine wp_ret ?_
                  refine hR0 _ _ ?_
                  refine ret_of hF hM (.cell (i := 1) rfl rfl (v := .agg #[.int .i64 (rN n d), .int .i64 (rD n d)]) (by kernel_rfl) (.tmp rfl (.nil))) ?_
                  have hd := rm_0 (n := n) (d := d) (by omega) (by unfold wide; omega) hz9
                  exact ⟨ret_eq (by rw [hd.1, hd.2.1, hd.2.2]; rfl), hM.bel⟩
                · skip
                  refine wp_region_lit ?_
                  refine wl (eL 43 3 0 (v := .agg #[.int .i64 (rN n d), .int .i64 (rD n d)]) hF hM (by kernel_rfl) rfl rfl (by kernel_rfl) (by kernel_rfl) fun a w hF hM => ?_)
                  refine wl (eM 44 (v := .bool false) hF hM (by kernel_rfl) (yld_call (f := 40) (args := #[.agg #[.int .i64 (rN n d), .int .i64 (rD n d)]]) hF (by kernel_rfl) (fun _ => by kernel_rfl) (fun w hM => raRight_no (rN n d) (rD n d) w hz9)) fun a w hF hM => ?_)
                  refine sB 1 [(45, .bool true)] hF (by kernel_rfl) fun a hF => ?_
                  refine wpList_nil ?_
                  refine hK22 _ _ ?_
                  refine cT hF (by kernel_rfl) (by kernel_rfl) ?_
                  refine wp_seq_k fun K24 hK24 => ?_
                  refine wp_region_lit ?_
                  refine sB 1 [(46, .agg #[.int .i64 0, .int .i64 0])] hF (by kernel_rfl) fun a hF => ?_
                  refine wl (sStore (i := 1) (off := 0) (cs' := #[.int .i64 0, .int .i64 0]) hF hM (by kernel_rfl) rfl rfl (by kernel_rfl) (by kernel_rfl) rfl (by kernel_rfl) fun w hM => ?_)
                  refine sB 1 [(5, .int .i64 6)] hF (by kernel_rfl) fun a hF => ?_
                  refine wpList_nil ?_
                  refine hK24 _ _ ?_
                  refine wp_ret ?_
                  refine hR0 _ _ ?_
                  refine ret_of hF hM (.cell (i := 1) rfl rfl (v := .agg #[.int .i64 0, .int .i64 0]) (by kernel_rfl) (.tmp rfl (.nil))) ?_
                  have hd := rm_66 (n := n) (d := d) (by omega) (by unfold wide; omega) hz9
                  exact ⟨ret_eq (by rw [hd.1, hd.2.1, hd.2.2]; rfl), hM.bel⟩

theorem rBoth_ok (an ad bn bd : Int) (w0 : World) (h1 : raE an ad = 0) (h2 : raE bn bd = 0) :
    Calls Tryd.prog 45 #[.agg #[.int .i64 an, .int .i64 ad], .agg #[.int .i64 bn, .int .i64 bd]] w0 (Ret w0 (.int .i64 0)) := by
  refine enterK 13 Tryd.func45 rfl rfl rfl ?_
  intro a hF Q0 hR0 hN0
  have hM := Mem.start w0
  have hz1 := raE_ok h1
  have hz2 := raE_ok h2
  refine wp_seq_k fun K1 hK1 => ?_
  refine wp_region_lit ?_
  refine wl (eN 2 1 (t := 23) (fun b => .pointer (some ⟨b, 0, none⟩)) #[.int .i64 an, .int .i64 ad] hF hM (by kernel_rfl) (fun _ => by kernel_rfl) fun bb1 a w hF hM => ?_)
  refine wl (eN 3 2 (t := 23) (fun b => .pointer (some ⟨b, 0, none⟩)) #[.int .i64 bn, .int .i64 bd] hF hM (by kernel_rfl) (fun _ => by kernel_rfl) fun bb2 a w hF hM => ?_)
  refine sB 1 [(4, .int .i64 0)] hF (by kernel_rfl) fun a hF => ?_
  refine wpList_nil ?_
  refine hK1 _ _ ?_
  refine wp_seq_k fun K2 hK2 => ?_
  refine wp_seq_k fun K3 hK3 => ?_
  refine wp_region_lit ?_
  refine wl (eL 5 1 0 (v := .agg #[.int .i64 an, .int .i64 ad]) hF hM (by kernel_rfl) rfl rfl (by kernel_rfl) (by kernel_rfl) fun a w hF hM => ?_)
  refine wl (eM 6 (v := .bool true) hF hM (by kernel_rfl) (yld_call (f := 40) (args := #[.agg #[.int .i64 an, .int .i64 ad]]) hF (by kernel_rfl) (fun _ => by kernel_rfl) (fun w hM => raRight_yes an ad w h1)) fun a w hF hM => ?_)
  refine sB 2 [(7, .bool false), (8, .bool false)] hF (by kernel_rfl) fun a hF => ?_
  refine wl (eL 9 2 0 (v := .agg #[.int .i64 bn, .int .i64 bd]) hF hM (by kernel_rfl) rfl rfl (by kernel_rfl) (by kernel_rfl) fun a w hF hM => ?_)
  refine wl (eM 10 (v := .bool true) hF hM (by kernel_rfl) (yld_call (f := 40) (args := #[.agg #[.int .i64 bn, .int .i64 bd]]) hF (by kernel_rfl) (fun _ => by kernel_rfl) (fun w hM => raRight_yes bn bd w h2)) fun a w hF hM => ?_)
  refine sB 2 [(11, .bool false), (12, .bool false)] hF (by kernel_rfl) fun a hF => ?_
  refine wpList_nil ?_
  refine hK3 _ _ ?_
  refine cF hF (by kernel_rfl) (by kernel_rfl) ?_
  refine wp_skip ?_
  refine hK2 _ _ ?_
  refine wp_seq_k fun K4 hK4 => ?_
  refine wp_region_lit ?_
  refine sB 1 [(4, .int .i64 0)] hF (by kernel_rfl) fun a hF => ?_
  refine wpList_nil ?_
  refine hK4 _ _ ?_
  refine wp_ret ?_
  refine hR0 _ _ ?_
  refine ret_of hF hM (.tmp rfl (.nil)) ?_
  exact ⟨rfl, hM.bel⟩

theorem rBoth_no (an ad bn bd : Int) (w0 : World) (h : ¬ (raE an ad = 0 ∧ raE bn bd = 0)) :
    Calls Tryd.prog 45 #[.agg #[.int .i64 an, .int .i64 ad], .agg #[.int .i64 bn, .int .i64 bd]] w0 (Ret w0 (.int .i64 120)) := by
  refine enterK 13 Tryd.func45 rfl rfl rfl ?_
  intro a hF Q0 hR0 hN0
  have hM := Mem.start w0
  refine wp_seq_k fun K1 hK1 => ?_
  refine wp_region_lit ?_
  refine wl (eN 2 1 (t := 23) (fun b => .pointer (some ⟨b, 0, none⟩)) #[.int .i64 an, .int .i64 ad] hF hM (by kernel_rfl) (fun _ => by kernel_rfl) fun bb1 a w hF hM => ?_)
  refine wl (eN 3 2 (t := 23) (fun b => .pointer (some ⟨b, 0, none⟩)) #[.int .i64 bn, .int .i64 bd] hF hM (by kernel_rfl) (fun _ => by kernel_rfl) fun bb2 a w hF hM => ?_)
  refine sB 1 [(4, .int .i64 0)] hF (by kernel_rfl) fun a hF => ?_
  refine wpList_nil ?_
  refine hK1 _ _ ?_
  refine wp_seq_k fun K2 hK2 => ?_
  refine wp_seq_k fun K3 hK3 => ?_
  by_cases hz1 : raE an ad = 0
  · skip
    have hz2 := raE_ok hz1
    by_cases hz3 : raE bn bd = 0
    · skip
      have hz4 := raE_ok hz3
      refine wp_region_lit ?_
      refine wl (eL 5 1 0 (v := .agg #[.int .i64 an, .int .i64 ad]) hF hM (by kernel_rfl) rfl rfl (by kernel_rfl) (by kernel_rfl) fun a w hF hM => ?_)
      refine wl (eM 6 (v := .bool true) hF hM (by kernel_rfl) (yld_call (f := 40) (args := #[.agg #[.int .i64 an, .int .i64 ad]]) hF (by kernel_rfl) (fun _ => by kernel_rfl) (fun w hM => raRight_yes an ad w hz1)) fun a w hF hM => ?_)
      refine sB 2 [(7, .bool false), (8, .bool false)] hF (by kernel_rfl) fun a hF => ?_
      refine wl (eL 9 2 0 (v := .agg #[.int .i64 bn, .int .i64 bd]) hF hM (by kernel_rfl) rfl rfl (by kernel_rfl) (by kernel_rfl) fun a w hF hM => ?_)
      refine wl (eM 10 (v := .bool true) hF hM (by kernel_rfl) (yld_call (f := 40) (args := #[.agg #[.int .i64 bn, .int .i64 bd]]) hF (by kernel_rfl) (fun _ => by kernel_rfl) (fun w hM => raRight_yes bn bd w hz3)) fun a w hF hM => ?_)
      refine sB 2 [(11, .bool false), (12, .bool false)] hF (by kernel_rfl) fun a hF => ?_
      refine wpList_nil ?_
      refine hK3 _ _ ?_
      refine cF hF (by kernel_rfl) (by kernel_rfl) ?_
      refine wp_skip ?_
      refine hK2 _ _ ?_
      refine wp_seq_k fun K4 hK4 => ?_
      refine wp_region_lit ?_
      refine sB 1 [(4, .int .i64 0)] hF (by kernel_rfl) fun a hF => ?_
      refine wpList_nil ?_
      refine hK4 _ _ ?_
      refine wp_ret ?_
      refine hR0 _ _ ?_
      refine ret_of hF hM (.tmp rfl (.nil)) ?_
      exact absurd ⟨hz1, hz3⟩ h
    · skip
      refine wp_region_lit ?_
      refine wl (eL 5 1 0 (v := .agg #[.int .i64 an, .int .i64 ad]) hF hM (by kernel_rfl) rfl rfl (by kernel_rfl) (by kernel_rfl) fun a w hF hM => ?_)
      refine wl (eM 6 (v := .bool true) hF hM (by kernel_rfl) (yld_call (f := 40) (args := #[.agg #[.int .i64 an, .int .i64 ad]]) hF (by kernel_rfl) (fun _ => by kernel_rfl) (fun w hM => raRight_yes an ad w hz1)) fun a w hF hM => ?_)
      refine sB 2 [(7, .bool false), (8, .bool false)] hF (by kernel_rfl) fun a hF => ?_
      refine wl (eL 9 2 0 (v := .agg #[.int .i64 bn, .int .i64 bd]) hF hM (by kernel_rfl) rfl rfl (by kernel_rfl) (by kernel_rfl) fun a w hF hM => ?_)
      refine wl (eM 10 (v := .bool false) hF hM (by kernel_rfl) (yld_call (f := 40) (args := #[.agg #[.int .i64 bn, .int .i64 bd]]) hF (by kernel_rfl) (fun _ => by kernel_rfl) (fun w hM => raRight_no bn bd w hz3)) fun a w hF hM => ?_)
      refine sB 2 [(11, .bool true), (12, .bool true)] hF (by kernel_rfl) fun a hF => ?_
      refine wpList_nil ?_
      refine hK3 _ _ ?_
      refine cT hF (by kernel_rfl) (by kernel_rfl) ?_
      refine wp_seq_k fun K5 hK5 => ?_
      refine wp_region_lit ?_
      refine sB 1 [(4, .int .i64 120)] hF (by kernel_rfl) fun a hF => ?_
      refine wpList_nil ?_
      refine hK5 _ _ ?_
      refine wp_ret ?_
      refine hR0 _ _ ?_
      refine ret_of hF hM (.tmp rfl (.nil)) ?_
      exact ⟨rfl, hM.bel⟩
  · skip
    refine wp_region_lit ?_
    refine wl (eL 5 1 0 (v := .agg #[.int .i64 an, .int .i64 ad]) hF hM (by kernel_rfl) rfl rfl (by kernel_rfl) (by kernel_rfl) fun a w hF hM => ?_)
    refine wl (eM 6 (v := .bool false) hF hM (by kernel_rfl) (yld_call (f := 40) (args := #[.agg #[.int .i64 an, .int .i64 ad]]) hF (by kernel_rfl) (fun _ => by kernel_rfl) (fun w hM => raRight_no an ad w hz1)) fun a w hF hM => ?_)
    refine sB 6 [(7, .bool true), (8, .bool true), (9, undef), (10, undef), (11, undef), (12, .bool true)] hF (by kernel_rfl) fun a hF => ?_
    refine wpList_nil ?_
    refine hK3 _ _ ?_
    refine cT hF (by kernel_rfl) (by kernel_rfl) ?_
    refine wp_seq_k fun K6 hK6 => ?_
    refine wp_region_lit ?_
    refine sB 1 [(4, .int .i64 120)] hF (by kernel_rfl) fun a hF => ?_
    refine wpList_nil ?_
    refine hK6 _ _ ?_
    refine wp_ret ?_
    refine hR0 _ _ ?_
    refine ret_of hF hM (.tmp rfl (.nil)) ?_
    exact ⟨rfl, hM.bel⟩

theorem rcV_bd (a b c d : Int) : -1 ≤ rcV a b c d ∧ rcV a b c d ≤ 1 := by unfold rcV; omega
end Go.Proofs.YtboodcekjooehaaDoor
