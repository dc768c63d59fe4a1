/-
  The reference of package curve.
-/
import Derived.Test.YtoighcbbaacnaaaCurveI
import Derived.Test.YtoighcbbaacnaaaHoldsPlain
namespace Go.Proofs.Ytoighcbbaacnaaa
open Go.RowKit
set_option linter.unusedVariables false
set_option linter.unusedSimpArgs false

theorem right_yes (b r : Int) (w0 : World) (h : bkE b r = 0) :
    Calls Try.prog 43 #[.agg #[.int .i64 b, .int .i64 r]] w0 (Ret w0 (.bool true)) := by
  have h := bkE_ok h
  refine enterK 21 Try.func43 rfl rfl rfl ?_
  intro a hF Q0 hR0 hN0
  have hM := Mem.start w0
  refine wp_seq_k fun K1 hK1 => ?_
  refine wp_region_lit ?_
  refine wl (eN 1 1 (t := 39) (fun b => .pointer (some ⟨b, 0, none⟩)) #[.int .i64 b, .int .i64 r] hF hM (by kernel_rfl) (fun _ => by kernel_rfl) fun bb1 a w hF hM => ?_)
  refine sB 1 [(2, .bool false)] hF (by kernel_rfl) fun a hF => ?_
  refine wpList_nil ?_
  refine hK1 _ _ ?_
  refine wp_seq_k fun K2 hK2 => ?_
  refine wp_region_lit ?_
  refine sB 1 [(3, .pointer (some ⟨bb1, 0, none⟩))] hF (by kernel_rfl) fun a hF => ?_
  refine wl (eL 4 1 0 (v := .int .i64 b) hF hM (by kernel_rfl) rfl rfl (by kernel_rfl) (by kernel_rfl) fun a w hF hM => ?_)
  refine wl (eP 5 (v0 := .bool (decide (1 ≤ b))) (v := .bool true) hF (by kernel_rfl) (fun _ => by kernel_rfl) (bT (by omega)) fun a hF => ?_)
  refine sB 2 [(6, .bool true), (7, .pointer (some ⟨bb1, 0, none⟩))] hF (by kernel_rfl) fun a hF => ?_
  refine wl (eL 8 1 0 (v := .int .i64 b) hF hM (by kernel_rfl) rfl rfl (by kernel_rfl) (by kernel_rfl) fun a w hF hM => ?_)
  refine wl (eP 9 (v0 := .bool (decide (b ≤ 1048576))) (v := .bool true) hF (by kernel_rfl) (fun _ => by kernel_rfl) (bT (by omega)) fun a hF => ?_)
  refine sB 3 [(10, .bool true), (11, .bool true), (12, .pointer (some ⟨bb1, 1, none⟩))] hF (by kernel_rfl) fun a hF => ?_
  refine wl (eL 13 1 1 (v := .int .i64 r) hF hM (by kernel_rfl) rfl rfl (by kernel_rfl) (by kernel_rfl) fun a w hF hM => ?_)
  refine wl (eP 14 (v0 := .bool (decide (1 ≤ r))) (v := .bool true) hF (by kernel_rfl) (fun _ => by kernel_rfl) (bT (by omega)) fun a hF => ?_)
  refine sB 3 [(15, .bool true), (16, .bool true), (17, .pointer (some ⟨bb1, 1, none⟩))] hF (by kernel_rfl) fun a hF => ?_
  refine wl (eL 18 1 1 (v := .int .i64 r) hF hM (by kernel_rfl) rfl rfl (by kernel_rfl) (by kernel_rfl) fun a w hF hM => ?_)
  refine wl (eP 19 (v0 := .bool (decide (r ≤ 2097152))) (v := .bool true) hF (by kernel_rfl) (fun _ => by kernel_rfl) (bT (by omega)) fun a hF => ?_)
  refine sB 2 [(20, .bool true), (2, .bool true)] hF (by kernel_rfl) fun a hF => ?_
  refine wpList_nil ?_
  refine hK2 _ _ ?_
  refine wp_ret ?_
  refine hR0 _ _ ?_
  refine ret_of hF hM (.tmp rfl (.nil)) ?_
  exact ⟨rfl, hM.bel⟩

theorem right_no (b r : Int) (w0 : World) (h : ¬ bkE b r = 0) :
    Calls Try.prog 43 #[.agg #[.int .i64 b, .int .i64 r]] w0 (Ret w0 (.bool false)) := by
  refine enterK 21 Try.func43 rfl rfl rfl ?_
  intro a hF Q0 hR0 hN0
  have hM := Mem.start w0
  refine wp_seq_k fun K1 hK1 => ?_
  refine wp_region_lit ?_
  refine wl (eN 1 1 (t := 39) (fun b => .pointer (some ⟨b, 0, none⟩)) #[.int .i64 b, .int .i64 r] hF hM (by kernel_rfl) (fun _ => by kernel_rfl) fun bb1 a w hF hM => ?_)
  refine sB 1 [(2, .bool false)] hF (by kernel_rfl) fun a hF => ?_
  refine wpList_nil ?_
  refine hK1 _ _ ?_
  refine wp_seq_k fun K2 hK2 => ?_
  by_cases hz1 : 1 ≤ b
  · skip
    by_cases hz2 : b ≤ 1048576
    · skip
      by_cases hz3 : 1 ≤ r
      · skip
        refine wp_region_lit ?_
        refine sB 1 [(3, .pointer (some ⟨bb1, 0, none⟩))] hF (by kernel_rfl) fun a hF => ?_
        refine wl (eL 4 1 0 (v := .int .i64 b) hF hM (by kernel_rfl) rfl rfl (by kernel_rfl) (by kernel_rfl) fun a w hF hM => ?_)
        refine wl (eP 5 (v0 := .bool (decide (1 ≤ b))) (v := .bool true) hF (by kernel_rfl) (fun _ => by kernel_rfl) (bT hz1) fun a hF => ?_)
        refine sB 2 [(6, .bool true), (7, .pointer (some ⟨bb1, 0, none⟩))] hF (by kernel_rfl) fun a hF => ?_
        refine wl (eL 8 1 0 (v := .int .i64 b) hF hM (by kernel_rfl) rfl rfl (by kernel_rfl) (by kernel_rfl) fun a w hF hM => ?_)
        refine wl (eP 9 (v0 := .bool (decide (b ≤ 1048576))) (v := .bool true) hF (by kernel_rfl) (fun _ => by kernel_rfl) (bT hz2) fun a hF => ?_)
        refine sB 3 [(10, .bool true), (11, .bool true), (12, .pointer (some ⟨bb1, 1, none⟩))] hF (by kernel_rfl) fun a hF => ?_
        refine wl (eL 13 1 1 (v := .int .i64 r) hF hM (by kernel_rfl) rfl rfl (by kernel_rfl) (by kernel_rfl) fun a w hF hM => ?_)
        refine wl (eP 14 (v0 := .bool (decide (1 ≤ r))) (v := .bool true) hF (by kernel_rfl) (fun _ => by kernel_rfl) (bT hz3) fun a hF => ?_)
        refine sB 3 [(15, .bool true), (16, .bool true), (17, .pointer (some ⟨bb1, 1, none⟩))] hF (by kernel_rfl) fun a hF => ?_
        refine wl (eL 18 1 1 (v := .int .i64 r) hF hM (by kernel_rfl) rfl rfl (by kernel_rfl) (by kernel_rfl) fun a w hF hM => ?_)
        refine sB 3 [(19, .bool (decide (r ≤ 2097152))), (20, .bool (decide (r ≤ 2097152))), (2, .bool (decide (r ≤ 2097152)))] hF (by kernel_rfl) fun a hF => ?_
        refine wpList_nil ?_
        refine hK2 _ _ ?_
        refine wp_ret ?_
        refine hR0 _ _ ?_
        refine ret_of hF hM (.tmp rfl (.nil)) ?_
        exact ⟨ret_bool (decide_eq_false (by unfold bkE at h; omega)), hM.bel⟩
      · skip
        refine wp_region_lit ?_
        refine sB 1 [(3, .pointer (some ⟨bb1, 0, none⟩))] hF (by kernel_rfl) fun a hF => ?_
        refine wl (eL 4 1 0 (v := .int .i64 b) hF hM (by kernel_rfl) rfl rfl (by kernel_rfl) (by kernel_rfl) fun a w hF hM => ?_)
        refine wl (eP 5 (v0 := .bool (decide (1 ≤ b))) (v := .bool true) hF (by kernel_rfl) (fun _ => by kernel_rfl) (bT hz1) fun a hF => ?_)
        refine sB 2 [(6, .bool true), (7, .pointer (some ⟨bb1, 0, none⟩))] hF (by kernel_rfl) fun a hF => ?_
        refine wl (eL 8 1 0 (v := .int .i64 b) hF hM (by kernel_rfl) rfl rfl (by kernel_rfl) (by kernel_rfl) fun a w hF hM => ?_)
        refine wl (eP 9 (v0 := .bool (decide (b ≤ 1048576))) (v := .bool true) hF (by kernel_rfl) (fun _ => by kernel_rfl) (bT hz2) fun a hF => ?_)
        refine sB 3 [(10, .bool true), (11, .bool true), (12, .pointer (some ⟨bb1, 1, none⟩))] hF (by kernel_rfl) fun a hF => ?_
        refine wl (eL 13 1 1 (v := .int .i64 r) hF hM (by kernel_rfl) rfl rfl (by kernel_rfl) (by kernel_rfl) fun a w hF hM => ?_)
        refine wl (eP 14 (v0 := .bool (decide (1 ≤ r))) (v := .bool false) hF (by kernel_rfl) (fun _ => by kernel_rfl) (bF hz3) fun a hF => ?_)
        refine sB 7 [(15, .bool false), (16, .bool false), (17, undef), (18, undef), (19, undef), (20, .bool false), (2, .bool false)] hF (by kernel_rfl) fun a hF => ?_
        refine wpList_nil ?_
        refine hK2 _ _ ?_
        refine wp_ret ?_
        refine hR0 _ _ ?_
        refine ret_of hF hM (.tmp rfl (.nil)) ?_
        exact ⟨rfl, hM.bel⟩
    · skip
      refine wp_region_lit ?_
      refine sB 1 [(3, .pointer (some ⟨bb1, 0, none⟩))] hF (by kernel_rfl) fun a hF => ?_
      refine wl (eL 4 1 0 (v := .int .i64 b) hF hM (by kernel_rfl) rfl rfl (by kernel_rfl) (by kernel_rfl) fun a w hF hM => ?_)
      refine wl (eP 5 (v0 := .bool (decide (1 ≤ b))) (v := .bool true) hF (by kernel_rfl) (fun _ => by kernel_rfl) (bT hz1) fun a hF => ?_)
      refine sB 2 [(6, .bool true), (7, .pointer (some ⟨bb1, 0, none⟩))] hF (by kernel_rfl) fun a hF => ?_
      refine wl (eL 8 1 0 (v := .int .i64 b) hF hM (by kernel_rfl) rfl rfl (by kernel_rfl) (by kernel_rfl) fun a w hF hM => ?_)
      refine wl (eP 9 (v0 := .bool (decide (b ≤ 1048576))) (v := .bool false) hF (by kernel_rfl) (fun _ => by kernel_rfl) (bF hz2) fun a hF => ?_)
      refine sB 12 [(10, .bool false), (11, .bool false), (12, undef), (13, undef), (14, undef), (15, .bool false), (16, .bool false), (17, undef), (18, undef), (19, undef), (20, .bool false), (2, .bool false)] hF (by kernel_rfl) fun a hF => ?_
      refine wpList_nil ?_
      refine hK2 _ _ ?_
      refine wp_ret ?_
      refine hR0 _ _ ?_
      refine ret_of hF hM (.tmp rfl (.nil)) ?_
      exact ⟨rfl, hM.bel⟩
  · skip
    refine wp_region_lit ?_
    refine sB 1 [(3, .pointer (some ⟨bb1, 0, none⟩))] hF (by kernel_rfl) fun a hF => ?_
    refine wl (eL 4 1 0 (v := .int .i64 b) hF hM (by kernel_rfl) rfl rfl (by kernel_rfl) (by kernel_rfl) fun a w hF hM => ?_)
    refine wl (eP 5 (v0 := .bool (decide (1 ≤ b))) (v := .bool false) hF (by kernel_rfl) (fun _ => by kernel_rfl) (bF hz1) fun a hF => ?_)
    refine sB 16 [(6, .bool false), (7, undef), (8, undef), (9, undef), (10, .bool false), (11, .bool false), (12, undef), (13, undef), (14, undef), (15, .bool false), (16, .bool false), (17, undef), (18, undef), (19, undef), (20, .bool false), (2, .bool false)] hF (by kernel_rfl) fun a hF => ?_
    refine wpList_nil ?_
    refine hK2 _ _ ?_
    refine wp_ret ?_
    refine hR0 _ _ ?_
    refine ret_of hF hM (.tmp rfl (.nil)) ?_
    exact ⟨rfl, hM.bel⟩

theorem slow_next {r : Int} {l : List (Int × Int)} {k : Nat} (h : ∀ j, j < k → r < (pr l j).2) (hk : r < (pr l k).2) : ∀ j, j < k + 1 → r < (pr l j).2 := fun j hj => by
  by_cases e : j = k
  · subst e; exact hk
  · exact h j (by omega)
theorem slow_end {r : Int} {l : List (Int × Int)} {k : Nat} (h : ∀ j, j < k → r < (pr l j).2) (hk : l.length ≤ k) : ∀ j, j < l.length → r < (pr l j).2 := fun j hj => h j (by omega)
theorem clK_last {r x : Int} {l : List (Int × Int)} {i k : Nat} (h : ¬ r < (pr l i).2) (hk : k = l.length) (hx : x = (clK r l i k).1) : x = rcl (clF (dAll r l (i + 1))) := by rw [clK_end h, rcl_yes (clK_found ..), ← hk]; exact hx
theorem dl_bad {b q r t : Int} (h : ¬ csE b q r t = 0) : dlE r t [(b, q)] = csE b q r t ∧ dlV r t [(b, q)] = 0 := by
  by_cases h1 : bkE b q = 0
  · have hb : bkAll [(b, q)] = true := bkAll_yes fun j hj => by
      have : j = 0 := (by simp at hj; omega)
      subst this
      exact h1
    by_cases h2 : svE r t = 0
    · have h3 : r < q := Int.not_le.1 fun z => h (cs_0 h1 h2 (by omega))
      have e := dl_141 (r := r) (t := t) (l := [(b, q)]) (by simp) (by simp) hb h2 (by rw [cl_none (fun j hj => by have : j = 0 := (by simp at hj; omega); subst this; exact h3)]; decide)
      rw [cs_141 h1 h2 h3]; exact e
    · rw [cs_140 h1 h2]; exact dl_140 (by simp) (by simp) hb h2
  · rw [cs_130 h1]; exact dl_130 (by simp) (by simp) (bkAll_no (k := 0) (by simp) h1)
theorem trB_ofE {l : List (Int × Int)} (h : trE l = 0) : trB l = true := by
  unfold trE at h
  split at h
  · assumption
  · cases h
theorem rSlow_w (r : Int) (A : Option Addr) (l : List (Int × Int)) (c : Nat) (w0 : World) (hA : Ro w0 A (flat2 l)) (hln : l.length ≤ 12) :
    Calls Try.prog 44 #[.slice A l.length c, .int .i64 r] w0 (Ret w0 (.bool (clF (dAll r l l.length)).2)) := by
  refine enterK 19 Try.func44 rfl rfl rfl ?_
  intro a hF Q0 hR0 hN0
  have hM := Mem.start w0
  replace hM := hM.addOld 1 hA (Nat.le_refl _)
  refine wp_seq_k fun K1 hK1 => ?_
  refine wp_region_lit ?_
  refine sB 1 [(4, .bool false)] hF (by kernel_rfl) fun a hF => ?_
  refine wpList_nil ?_
  refine hK1 _ _ ?_
  refine wp_seq_k fun K2 hK2 => ?_
  refine wp_seq_k fun K3 hK3 => ?_
  refine wp_region_lit ?_
  refine sB 1 [(5, .int .i64 0)] hF (by kernel_rfl) fun a hF => ?_
  refine wpList_nil ?_
  refine hK3 _ _ ?_
  refine wp_block ?_
  refine wp_loop_k (G := Nat) (fun gg a w => Fr 19 [(5, some (.int .i64 (gg : Int))), (0, some (.slice A l.length c)), (1, some (.int .i64 r))] a ∧ Mem w0.heap.size w0 [(1, some (.ro A (flat2 l)))] w ∧ ((gg : Int) ≤ (l.length : Int)) ∧ (∀ j, j < gg → r < (pr l j).2)) (fun gg => l.length - gg) (0) ?_ ?_
  · refine ⟨((((Fr.nil hF).c hF (i := 1) rfl rfl).c hF (i := 0) rfl rfl).c hF (i := 5) rfl (vi (show (0 : Int) = (0 : Int) from by omega))), (hM.sub (Sub.nil.c (k := 1) rfl rfl)), (show (0 : Int) ≤ (l.length : Int) from by omega), (show ∀ j, j < 0 → r < (pr l j).2 from by exact fun j hj => by omega)⟩
  · intro gg a w hI
    intro K4 hK4
    obtain ⟨k, rfl⟩ : ∃ x, x = gg := ⟨_, rfl⟩
    try dsimp only at hI hK4
    obtain ⟨hF, hM, hz1, hz2⟩ := hI
    refine wp_seq_k fun K5 hK5 => ?_
    refine wp_seq_k fun K6 hK6 => ?_
    refine wp_region_lit ?_
    refine sB 4 [(6, .int .i64 (k : Int)), (7, .slice A l.length c), (8, .int .i64 (l.length : Int)), (9, .bool (decide ((k : Int) < (l.length : Int))))] hF (by kernel_rfl) fun a hF => ?_
    refine wpList_nil ?_
    refine hK6 _ _ ?_
    by_cases hz3 : (k : Int) < (l.length : Int)
    · skip
      replace hF := hF.c hF (i := 9) (v := .bool true) rfl (bT hz3)
      refine cT hF (by kernel_rfl) (by kernel_rfl) ?_
      refine wp_skip ?_
      refine hK5 _ _ ?_
      refine wp_seq_k fun K7 hK7 => ?_
      refine wp_block ?_
      refine wp_seq_k fun K8 hK8 => ?_
      refine wp_region_lit ?_
      refine sB 2 [(12, .slice A l.length c), (13, .int .i64 (k : Int))] hF (by kernel_rfl) fun a hF => ?_
      refine wl (eM 14 (v := .pointer (some (ea A (k * 2)))) hF hM (by kernel_rfl) (yld_ix (kd := .i64) (e := 39) (len := l.length) (cap := c) (i := (k : Int)) (size := 2) (A := A) hF rfl (by kernel_rfl) (by kernel_rfl) (by kernel_rfl) (by kernel_rfl) (by kernel_rfl) (roK 1 rfl) (by omega) (by omega) (by rw [flat2_length]; omega)) fun a w hF hM => ?_)
      refine sB 1 [(15, .pointer (some (ea A (k * 2 + 1))))] hF (by kernel_rfl) fun a hF => ?_
      refine wl (eM 16 (v := .int .i64 (pr l k).2) hF hM (by kernel_rfl) (yld_ro1 (A := A) (j := k * 2 + 1) hF rfl (by kernel_rfl) (by kernel_rfl) (roK 1 rfl) (by kernel_rfl) (pr_snd (k := k) (by omega) (by omega))) fun a w hF hM => ?_)
      refine sB 2 [(17, .int .i64 r), (18, .bool (decide ((pr l k).2 ≤ r)))] hF (by kernel_rfl) fun a hF => ?_
      refine wpList_nil ?_
      refine hK8 _ _ ?_
      by_cases hz4 : (pr l k).2 ≤ r
      · skip
        replace hF := hF.c hF (i := 18) (v := .bool true) rfl (bT hz4)
        refine cT hF (by kernel_rfl) (by kernel_rfl) ?_
        refine wp_seq_k fun K9 hK9 => ?_
        refine wp_region_lit ?_
        refine sB 1 [(4, .bool true)] hF (by kernel_rfl) fun a hF => ?_
        refine wpList_nil ?_
        refine hK9 _ _ ?_
        refine wp_ret ?_
        refine hR0 _ _ ?_
        refine ret_of hF hM (.tmp rfl (.nil)) ?_
        exact ⟨ret_bool (cl_some (j := k) (by omega) (by omega)).symm, hM.bel⟩
      · skip
        replace hF := hF.c hF (i := 18) (v := .bool false) rfl (bF hz4)
        refine cF hF (by kernel_rfl) (by kernel_rfl) ?_
        refine wp_skip ?_
        refine hK7 _ _ ?_
        refine wp_region_lit ?_
        refine sB 1 [(10, .int .i64 (k : Int))] hF (by kernel_rfl) fun a hF => ?_
        refine wl (eP 11 (v0 := .int .i64 (IntKind.i64.wrap ((k : Int) + 1))) (v := .int .i64 ((k : Int) + 1)) hF (by kernel_rfl) (fun _ => by kernel_rfl) (wi (by omega)) fun a hF => ?_)
        refine sB 1 [(5, .int .i64 ((k : Int) + 1))] hF (by kernel_rfl) fun a hF => ?_
        refine wpList_nil ?_
        refine hK4 _ _ ⟨(k + 1), ⟨((((Fr.nil hF).c hF (i := 1) rfl rfl).c hF (i := 0) rfl rfl).c hF (i := 5) rfl (vi (show ((k : Int) + 1 : Int) = ((k + 1) : Int) from by omega))), (hM.sub (Sub.nil.c (k := 1) rfl rfl)), (show ((k + 1) : Int) ≤ (l.length : Int) from by omega), (show ∀ j, j < (k + 1) → r < (pr l j).2 from by exact slow_next (by assumption) (by omega))⟩, (show l.length - (k + 1) < l.length - k from by omega)⟩
    · skip
      replace hF := hF.c hF (i := 9) (v := .bool false) rfl (bF hz3)
      refine cF hF (by kernel_rfl) (by kernel_rfl) ?_
      refine wp_exit ?_
      refine hK2 _ _ ?_
      refine wp_seq_k fun K10 hK10 => ?_
      refine wp_region_lit ?_
      refine sB 1 [(4, .bool false)] hF (by kernel_rfl) fun a hF => ?_
      refine wpList_nil ?_
      refine hK10 _ _ ?_
      refine wp_ret ?_
      refine hR0 _ _ ?_
      refine ret_of hF hM (.tmp rfl (.nil)) ?_
      exact ⟨ret_bool (cl_none (slow_end (by assumption) (by omega))).symm, hM.bel⟩

theorem rClear_w (r : Int) (A : Option Addr) (l : List (Int × Int)) (c : Nat) (w0 : World) (hA : Ro w0 A (flat2 l)) (hln : l.length ≤ 12) (hr : 1 ≤ r ∧ r ≤ 2097152) (hb : bkAll l = true) :
    Calls Try.prog 45 #[.slice A l.length c, .int .i64 r] w0 (Ret w0 (.int .i64 (rcl (clF (dAll r l l.length))))) := by
  refine enterK 86 Try.func45 rfl rfl rfl ?_
  intro a hF Q0 hR0 hN0
  have hM := Mem.start w0
  replace hM := hM.addOld 1 hA (Nat.le_refl _)
  refine wp_seq_k fun K1 hK1 => ?_
  refine wp_region_lit ?_
  refine sB 1 [(4, .int .i64 0)] hF (by kernel_rfl) fun a hF => ?_
  refine wpList_nil ?_
  refine hK1 _ _ ?_
  refine wp_seq_k fun K2 hK2 => ?_
  refine wp_region_lit ?_
  refine sB 1 [(5, .int .i64 (-1))] hF (by kernel_rfl) fun a hF => ?_
  refine wpList_nil ?_
  refine hK2 _ _ ?_
  refine wp_seq_k fun K3 hK3 => ?_
  refine wp_seq_k fun K4 hK4 => ?_
  refine wp_region_lit ?_
  refine sB 1 [(6, .int .i64 0)] hF (by kernel_rfl) fun a hF => ?_
  refine wpList_nil ?_
  refine hK4 _ _ ?_
  refine wp_block ?_
  refine wp_loop_k (G := Nat × Int) (fun gg a w => Fr 86 [(5, some (.int .i64 gg.2)), (6, some (.int .i64 (gg.1 : Int))), (0, some (.slice A l.length c)), (1, some (.int .i64 r)), (4, some (.int .i64 0))] a ∧ Mem w0.heap.size w0 [(1, some (.ro A (flat2 l)))] w ∧ ((gg.1 : Int) ≤ (l.length : Int)) ∧ (gg.2 = rcl (clF (dAll r l gg.1)))) (fun gg => l.length - gg.1) (0, -1) ?_ ?_
  · refine ⟨((((((Fr.nil hF).c hF (i := 4) rfl rfl).c hF (i := 1) rfl rfl).c hF (i := 0) rfl rfl).c hF (i := 6) rfl (vi (show (0 : Int) = (0 : Int) from by omega))).c hF (i := 5) rfl rfl), (hM.sub (Sub.nil.c (k := 1) rfl rfl)), (show (0 : Int) ≤ (l.length : Int) from by omega), (show (-1) = rcl (clF (dAll r l 0)) from by rfl)⟩
  · intro gg a w hI
    intro K5 hK5
    obtain ⟨i, lx⟩ := gg
    try dsimp only at hI hK5
    obtain ⟨hF, hM, hz1, hz2⟩ := hI
    refine wp_seq_k fun K6 hK6 => ?_
    refine wp_seq_k fun K7 hK7 => ?_
    refine wp_region_lit ?_
    refine sB 4 [(11, .int .i64 (i : Int)), (12, .slice A l.length c), (13, .int .i64 (l.length : Int)), (14, .bool (decide ((i : Int) < (l.length : Int))))] hF (by kernel_rfl) fun a hF => ?_
    refine wpList_nil ?_
    refine hK7 _ _ ?_
    by_cases hz3 : (i : Int) < (l.length : Int)
    · skip
      replace hF := hF.c hF (i := 14) (v := .bool true) rfl (bT hz3)
      refine cT hF (by kernel_rfl) (by kernel_rfl) ?_
      refine wp_skip ?_
      refine hK6 _ _ ?_
      refine wp_seq_k fun K8 hK8 => ?_
      refine wp_block ?_
      refine wp_seq_k fun K9 hK9 => ?_
      refine wp_region_lit ?_
      refine sB 2 [(17, .slice A l.length c), (18, .int .i64 (i : Int))] hF (by kernel_rfl) fun a hF => ?_
      refine wl (eM 19 (v := .pointer (some (ea A (i * 2)))) hF hM (by kernel_rfl) (yld_ix (kd := .i64) (e := 39) (len := l.length) (cap := c) (i := (i : Int)) (size := 2) (A := A) hF rfl (by kernel_rfl) (by kernel_rfl) (by kernel_rfl) (by kernel_rfl) (by kernel_rfl) (roK 1 rfl) (by omega) (by omega) (by rw [flat2_length]; omega)) fun a w hF hM => ?_)
      refine wl (eM 20 (v := .agg #[.int .i64 (pr l i).1, .int .i64 (pr l i).2]) hF hM (by kernel_rfl) (yld_roM (A := A) (j := i * 2) (us := [.int .i64 (pr l i).1, .int .i64 (pr l i).2]) hF rfl (by kernel_rfl) (by kernel_rfl) (roK 1 rfl) (by kernel_rfl) rfl (pr_both (k := i) (by omega) (by omega))) fun a w hF hM => ?_)
      refine wl (eN 7 2 (t := 39) (fun b => .pointer (some ⟨b, 0, none⟩)) #[.int .i64 0, .int .i64 0] hF hM (by kernel_rfl) (fun _ => by kernel_rfl) fun bb1 a w hF hM => ?_)
      refine wl (sStore (i := 2) (off := 0) (cs' := #[.int .i64 (pr l i).1, .int .i64 (pr l i).2]) hF hM (by kernel_rfl) rfl rfl (by kernel_rfl) (by kernel_rfl) rfl (by kernel_rfl) fun w hM => ?_)
      refine wpList_nil ?_
      refine hK9 _ _ ?_
      refine wp_seq_k fun K10 hK10 => ?_
      refine wp_seq_k fun K11 hK11 => ?_
      have hbi := bk_all hb i (by omega)
      refine wp_region_lit ?_
      refine sB 1 [(21, .pointer (some ⟨bb1, 1, none⟩))] hF (by kernel_rfl) fun a hF => ?_
      refine wl (eL 22 2 1 (v := .int .i64 (pr l i).2) hF hM (by kernel_rfl) rfl rfl (by kernel_rfl) (by kernel_rfl) fun a w hF hM => ?_)
      refine sB 2 [(23, .int .i64 r), (24, .bool (decide (r < (pr l i).2)))] hF (by kernel_rfl) fun a hF => ?_
      refine wpList_nil ?_
      refine hK11 _ _ ?_
      by_cases hz4 : r < (pr l i).2
      · skip
        replace hF := hF.c hF (i := 24) (v := .bool true) rfl (bT hz4)
        refine cT hF (by kernel_rfl) (by kernel_rfl) ?_
        refine wp_exit ?_
        refine hK8 _ _ ?_
        refine wp_region_lit ?_
        refine sB 1 [(15, .int .i64 (i : Int))] hF (by kernel_rfl) fun a hF => ?_
        refine wl (eP 16 (v0 := .int .i64 (IntKind.i64.wrap ((i : Int) + 1))) (v := .int .i64 ((i : Int) + 1)) hF (by kernel_rfl) (fun _ => by kernel_rfl) (wi (by omega)) fun a hF => ?_)
        refine sB 1 [(6, .int .i64 ((i : Int) + 1))] hF (by kernel_rfl) fun a hF => ?_
        refine wpList_nil ?_
        refine hK5 _ _ ⟨(i + 1, lx), ⟨((((((Fr.nil hF).c hF (i := 4) rfl rfl).c hF (i := 1) rfl rfl).c hF (i := 0) rfl rfl).c hF (i := 6) rfl (vi (show ((i : Int) + 1 : Int) = ((i + 1) : Int) from by omega))).c hF (i := 5) rfl rfl), (hM.sub (Sub.nil.c (k := 1) rfl rfl)), (show ((i + 1) : Int) ≤ (l.length : Int) from by omega), (show lx = rcl (clF (dAll r l (i + 1))) from by rw [dAll_skip (by omega)]; assumption)⟩, (show l.length - (i + 1) < l.length - i from by omega)⟩
      · skip
        replace hF := hF.c hF (i := 24) (v := .bool false) rfl (bF hz4)
        refine cF hF (by kernel_rfl) (by kernel_rfl) ?_
        refine wp_skip ?_
        refine hK10 _ _ ?_
        refine wp_seq_k fun K12 hK12 => ?_
        refine wp_region_lit ?_
        refine sB 1 [(25, .pointer (some ⟨bb1, 0, none⟩))] hF (by kernel_rfl) fun a hF => ?_
        refine wl (eL 26 2 0 (v := .int .i64 (pr l i).1) hF hM (by kernel_rfl) rfl rfl (by kernel_rfl) (by kernel_rfl) fun a w hF hM => ?_)
        refine wl (eP 27 (v0 := .int .i64 (IntKind.i64.wrap ((pr l i).1 * 1048576))) (v := .int .i64 ((pr l i).1 * 1048576)) hF (by kernel_rfl) (fun _ => by kernel_rfl) (wi (by omega)) fun a hF => ?_)
        refine sB 1 [(28, .int .i64 r)] hF (by kernel_rfl) fun a hF => ?_
        refine wl (eM 29 (v := .int .i64 (cq ((pr l i).1 * 1048576) r)) hF hM (by kernel_rfl) (yld_call (f := 48) (args := #[.int .i64 ((pr l i).1 * 1048576), .int .i64 r]) hF (by kernel_rfl) (fun _ => by kernel_rfl) (fun w hM => rCeil4_w ((pr l i).1 * 1048576) r w (by omega))) fun a w hF hM => ?_)
        have := cq_in (n := (pr l i).1 * 1048576) (d := r) (B := 1099511627776) (by omega) (by omega) (by omega)
        refine sB 1 [(8, .int .i64 (cq ((pr l i).1 * 1048576) r))] hF (by kernel_rfl) fun a hF => ?_
        refine wpList_nil ?_
        refine hK12 _ _ ?_
        refine wp_seq_k fun K13 hK13 => ?_
        refine wp_seq_k fun K14 hK14 => ?_
        have hcf := clK_first (r := r) (l := l) (i := i) (x := lx) (by assumption) (fun y hy => (dAll_in hr (bk_all hb) i (by omega) y hy).1)
        by_cases hz5 : lx < 0
        · skip
          have hcf := clK_first (r := r) (l := l) (i := i) (x := lx) (by assumption) (fun y hy => (dAll_in hr (bk_all hb) i (by omega) y hy).1)
          refine wp_region_lit ?_
          refine sB 1 [(30, .int .i64 lx)] hF (by kernel_rfl) fun a hF => ?_
          refine wl (eP 31 (v0 := .bool (decide (lx < 0))) (v := .bool true) hF (by kernel_rfl) (fun _ => by kernel_rfl) (bT hz5) fun a hF => ?_)
          refine sB 5 [(32, .bool true), (33, undef), (34, undef), (35, undef), (36, .bool true)] hF (by kernel_rfl) fun a hF => ?_
          refine wpList_nil ?_
          refine hK14 _ _ ?_
          refine cT hF (by kernel_rfl) (by kernel_rfl) ?_
          refine wp_region_lit ?_
          refine sB 2 [(37, .int .i64 (cq ((pr l i).1 * 1048576) r)), (5, .int .i64 (cq ((pr l i).1 * 1048576) r))] hF (by kernel_rfl) fun a hF => ?_
          refine wpList_nil ?_
          refine hK13 _ _ ?_
          refine wp_seq_k fun K15 hK15 => ?_
          refine wp_region_lit ?_
          refine sB 1 [(9, .int .i64 0)] hF (by kernel_rfl) fun a hF => ?_
          refine wpList_nil ?_
          refine hK15 _ _ ?_
          refine wp_block ?_
          refine wp_loop_k (G := Nat × Int) (fun gg a w => Fr 86 [(5, some (.int .i64 gg.2)), (9, some (.int .i64 (gg.1 : Int))), (0, some (.slice A l.length c)), (1, some (.int .i64 r)), (4, some (.int .i64 0)), (6, some (.int .i64 (i : Int))), (7, some (.pointer (some ⟨bb1, 0, none⟩)))] a ∧ Mem w0.heap.size w0 [(1, some (.ro A (flat2 l))), (2, some (.row bb1 39 #[.int .i64 (pr l i).1, .int .i64 (pr l i).2]))] w ∧ ((gg.1 : Int) ≤ (l.length : Int)) ∧ (gg.2 = (clK r l i gg.1).1)) (fun gg => l.length - gg.1) (0, cq ((pr l i).1 * 1048576) r) ?_ ?_
          · refine ⟨((((((((Fr.nil hF).c hF (i := 7) rfl rfl).c hF (i := 6) rfl rfl).c hF (i := 4) rfl rfl).c hF (i := 1) rfl rfl).c hF (i := 0) rfl rfl).c hF (i := 9) rfl (vi (show (0 : Int) = (0 : Int) from by omega))).c hF (i := 5) rfl rfl), (hM.sub ((Sub.nil.c (k := 2) rfl rfl).c (k := 1) rfl rfl)), (show (0 : Int) ≤ (l.length : Int) from by omega), (show (cq ((pr l i).1 * 1048576) r) = (clK r l i 0).1 from by first | exact (hcf.1 (by omega)).symm | exact (hcf.2 (by omega)).symm)⟩
          · intro gg a w hI
            intro K16 hK16
            obtain ⟨k, ly⟩ := gg
            try dsimp only at hI hK16
            obtain ⟨hF, hM, hz6, hz7⟩ := hI
            refine wp_seq_k fun K17 hK17 => ?_
            refine wp_seq_k fun K18 hK18 => ?_
            refine wp_region_lit ?_
            refine sB 4 [(38, .int .i64 (k : Int)), (39, .slice A l.length c), (40, .int .i64 (l.length : Int)), (41, .bool (decide ((k : Int) < (l.length : Int))))] hF (by kernel_rfl) fun a hF => ?_
            refine wpList_nil ?_
            refine hK18 _ _ ?_
            by_cases hz8 : (k : Int) < (l.length : Int)
            · skip
              replace hF := hF.c hF (i := 41) (v := .bool true) rfl (bT hz8)
              refine cT hF (by kernel_rfl) (by kernel_rfl) ?_
              refine wp_skip ?_
              refine hK17 _ _ ?_
              refine wp_seq_k fun K19 hK19 => ?_
              refine wp_block ?_
              refine wp_seq_k fun K20 hK20 => ?_
              refine wp_region_lit ?_
              refine sB 2 [(44, .slice A l.length c), (45, .int .i64 (k : Int))] hF (by kernel_rfl) fun a hF => ?_
              refine wl (eM 46 (v := .pointer (some (ea A (k * 2)))) hF hM (by kernel_rfl) (yld_ix (kd := .i64) (e := 39) (len := l.length) (cap := c) (i := (k : Int)) (size := 2) (A := A) hF rfl (by kernel_rfl) (by kernel_rfl) (by kernel_rfl) (by kernel_rfl) (by kernel_rfl) (roK 1 rfl) (by omega) (by omega) (by rw [flat2_length]; omega)) fun a w hF hM => ?_)
              refine wl (eM 47 (v := .agg #[.int .i64 (pr l k).1, .int .i64 (pr l k).2]) hF hM (by kernel_rfl) (yld_roM (A := A) (j := k * 2) (us := [.int .i64 (pr l k).1, .int .i64 (pr l k).2]) hF rfl (by kernel_rfl) (by kernel_rfl) (roK 1 rfl) (by kernel_rfl) rfl (pr_both (k := k) (by omega) (by omega))) fun a w hF hM => ?_)
              refine wl (eN 10 3 (t := 39) (fun b => .pointer (some ⟨b, 0, none⟩)) #[.int .i64 0, .int .i64 0] hF hM (by kernel_rfl) (fun _ => by kernel_rfl) fun bb2 a w hF hM => ?_)
              refine wl (sStore (i := 3) (off := 0) (cs' := #[.int .i64 (pr l k).1, .int .i64 (pr l k).2]) hF hM (by kernel_rfl) rfl rfl (by kernel_rfl) (by kernel_rfl) rfl (by kernel_rfl) fun w hM => ?_)
              refine wpList_nil ?_
              refine hK20 _ _ ?_
              refine wp_seq_k fun K21 hK21 => ?_
              have hbk := bk_all hb k (by omega)
              by_cases hz9 : r < (pr l k).2
              · skip
                have hbk := bk_all hb k (by omega)
                refine wp_region_lit ?_
                refine sB 1 [(48, .pointer (some ⟨bb2, 1, none⟩))] hF (by kernel_rfl) fun a hF => ?_
                refine wl (eL 49 3 1 (v := .int .i64 (pr l k).2) hF hM (by kernel_rfl) rfl rfl (by kernel_rfl) (by kernel_rfl) fun a w hF hM => ?_)
                refine sB 1 [(50, .int .i64 r)] hF (by kernel_rfl) fun a hF => ?_
                refine wl (eP 51 (v0 := .bool (decide (r < (pr l k).2))) (v := .bool true) hF (by kernel_rfl) (fun _ => by kernel_rfl) (bT hz9) fun a hF => ?_)
                refine sB 2 [(52, .bool true), (53, .pointer (some ⟨bb2, 0, none⟩))] hF (by kernel_rfl) fun a hF => ?_
                refine wl (eL 54 3 0 (v := .int .i64 (pr l k).1) hF hM (by kernel_rfl) rfl rfl (by kernel_rfl) (by kernel_rfl) fun a w hF hM => ?_)
                refine sB 1 [(55, .pointer (some ⟨bb1, 0, none⟩))] hF (by kernel_rfl) fun a hF => ?_
                refine wl (eL 56 2 0 (v := .int .i64 (pr l i).1) hF hM (by kernel_rfl) rfl rfl (by kernel_rfl) (by kernel_rfl) fun a w hF hM => ?_)
                refine sB 2 [(57, .bool (decide ((pr l k).1 < (pr l i).1))), (58, .bool (decide ((pr l k).1 < (pr l i).1)))] hF (by kernel_rfl) fun a hF => ?_
                refine wpList_nil ?_
                refine hK21 _ _ ?_
                by_cases hz10 : (pr l k).1 < (pr l i).1
                · skip
                  replace hF := hF.c hF (i := 57) (v := .bool true) rfl (bT hz10)
                  replace hF := hF.c hF (i := 58) (v := .bool true) rfl (bT hz10)
                  refine cT hF (by kernel_rfl) (by kernel_rfl) ?_
                  refine wp_region_lit ?_
                  refine sB 2 [(59, .int .i64 ly), (60, .pointer (some ⟨bb2, 1, none⟩))] hF (by kernel_rfl) fun a hF => ?_
                  refine wl (eL 61 3 1 (v := .int .i64 (pr l k).2) hF hM (by kernel_rfl) rfl rfl (by kernel_rfl) (by kernel_rfl) fun a w hF hM => ?_)
                  refine sB 1 [(62, .int .i64 r)] hF (by kernel_rfl) fun a hF => ?_
                  refine wl (eP 63 (v0 := .int .i64 (IntKind.i64.wrap ((pr l k).2 - r))) (v := .int .i64 ((pr l k).2 - r)) hF (by kernel_rfl) (fun _ => by kernel_rfl) (wi (by omega)) fun a hF => ?_)
                  refine sB 1 [(64, .pointer (some ⟨bb1, 0, none⟩))] hF (by kernel_rfl) fun a hF => ?_
                  refine wl (eL 65 2 0 (v := .int .i64 (pr l i).1) hF hM (by kernel_rfl) rfl rfl (by kernel_rfl) (by kernel_rfl) fun a w hF hM => ?_)
                  have hz11 : 2 ≤ ((pr l k).2 - r) * (pr l i).1 ∧ ((pr l k).2 - r) * (pr l i).1 ≤ 2199022206976 := mul_bd (1) (2097151) (2) (1048576) (by omega) (by omega) (by omega) (by omega) (by decide)
                  refine wl (eP 66 (v0 := .int .i64 (IntKind.i64.wrap (((pr l k).2 - r) * (pr l i).1))) (v := .int .i64 (((pr l k).2 - r) * (pr l i).1)) hF (by kernel_rfl) (fun _ => by kernel_rfl) (wi (by omega)) fun a hF => ?_)
                  refine sB 2 [(67, .int .i64 r), (68, .pointer (some ⟨bb1, 1, none⟩))] hF (by kernel_rfl) fun a hF => ?_
                  refine wl (eL 69 2 1 (v := .int .i64 (pr l i).2) hF hM (by kernel_rfl) rfl rfl (by kernel_rfl) (by kernel_rfl) fun a w hF hM => ?_)
                  refine wl (eP 70 (v0 := .int .i64 (IntKind.i64.wrap (r - (pr l i).2))) (v := .int .i64 (r - (pr l i).2)) hF (by kernel_rfl) (fun _ => by kernel_rfl) (wi (by omega)) fun a hF => ?_)
                  refine sB 1 [(71, .pointer (some ⟨bb2, 0, none⟩))] hF (by kernel_rfl) fun a hF => ?_
                  refine wl (eL 72 3 0 (v := .int .i64 (pr l k).1) hF hM (by kernel_rfl) rfl rfl (by kernel_rfl) (by kernel_rfl) fun a w hF hM => ?_)
                  have hz12 : 0 ≤ (r - (pr l i).2) * (pr l k).1 ∧ (r - (pr l i).2) * (pr l k).1 ≤ 2199019061250 := mul_bd (0) (2097150) (1) (1048575) (by omega) (by omega) (by omega) (by omega) (by decide)
                  refine wl (eP 73 (v0 := .int .i64 (IntKind.i64.wrap ((r - (pr l i).2) * (pr l k).1))) (v := .int .i64 ((r - (pr l i).2) * (pr l k).1)) hF (by kernel_rfl) (fun _ => by kernel_rfl) (wi (by omega)) fun a hF => ?_)
                  refine wl (eP 74 (v0 := .int .i64 (IntKind.i64.wrap (((pr l k).2 - r) * (pr l i).1 + (r - (pr l i).2) * (pr l k).1))) (v := .int .i64 (((pr l k).2 - r) * (pr l i).1 + (r - (pr l i).2) * (pr l k).1)) hF (by kernel_rfl) (fun _ => by kernel_rfl) (wi (by omega)) fun a hF => ?_)
                  refine wl (eP 75 (v0 := .int .i64 (IntKind.i64.wrap ((((pr l k).2 - r) * (pr l i).1 + (r - (pr l i).2) * (pr l k).1) * 1048576))) (v := .int .i64 ((((pr l k).2 - r) * (pr l i).1 + (r - (pr l i).2) * (pr l k).1) * 1048576)) hF (by kernel_rfl) (fun _ => by kernel_rfl) (wi (by omega)) fun a hF => ?_)
                  refine sB 2 [(76, .int .i64 r), (77, .pointer (some ⟨bb2, 1, none⟩))] hF (by kernel_rfl) fun a hF => ?_
                  refine wl (eL 78 3 1 (v := .int .i64 (pr l k).2) hF hM (by kernel_rfl) rfl rfl (by kernel_rfl) (by kernel_rfl) fun a w hF hM => ?_)
                  refine sB 1 [(79, .pointer (some ⟨bb1, 1, none⟩))] hF (by kernel_rfl) fun a hF => ?_
                  refine wl (eL 80 2 1 (v := .int .i64 (pr l i).2) hF hM (by kernel_rfl) rfl rfl (by kernel_rfl) (by kernel_rfl) fun a w hF hM => ?_)
                  refine wl (eP 81 (v0 := .int .i64 (IntKind.i64.wrap ((pr l k).2 - (pr l i).2))) (v := .int .i64 ((pr l k).2 - (pr l i).2)) hF (by kernel_rfl) (fun _ => by kernel_rfl) (wi (by omega)) fun a hF => ?_)
                  have hz13 : 1 ≤ r * ((pr l k).2 - (pr l i).2) ∧ r * ((pr l k).2 - (pr l i).2) ≤ 4398042316801 := mul_bd (1) (2097151) (1) (2097151) (by omega) (by omega) (by omega) (by omega) (by decide)
                  refine wl (eP 82 (v0 := .int .i64 (IntKind.i64.wrap (r * ((pr l k).2 - (pr l i).2)))) (v := .int .i64 (r * ((pr l k).2 - (pr l i).2))) hF (by kernel_rfl) (fun _ => by kernel_rfl) (wi (by omega)) fun a hF => ?_)
                  refine wl (eM 83 (v := .int .i64 (cq ((((pr l k).2 - r) * (pr l i).1 + (r - (pr l i).2) * (pr l k).1) * 1048576) (r * ((pr l k).2 - (pr l i).2)))) hF hM (by kernel_rfl) (yld_call (f := 48) (args := #[.int .i64 ((((pr l k).2 - r) * (pr l i).1 + (r - (pr l i).2) * (pr l k).1) * 1048576), .int .i64 (r * ((pr l k).2 - (pr l i).2))]) hF (by kernel_rfl) (fun _ => by kernel_rfl) (fun w hM => rCeil4_w ((((pr l k).2 - r) * (pr l i).1 + (r - (pr l i).2) * (pr l k).1) * 1048576) (r * ((pr l k).2 - (pr l i).2)) w (by omega))) fun a w hF hM => ?_)
                  have := cq_in (n := (((pr l k).2 - r) * (pr l i).1 + (r - (pr l i).2) * (pr l k).1) * 1048576) (d := r * ((pr l k).2 - (pr l i).2)) (B := 4611680520871346176) (by omega) (by omega) (by omega)
                  refine wl (eP 84 (v0 := .int .i64 (if cq ((((pr l k).2 - r) * (pr l i).1 + (r - (pr l i).2) * (pr l k).1) * 1048576) (r * ((pr l k).2 - (pr l i).2)) < ly then cq ((((pr l k).2 - r) * (pr l i).1 + (r - (pr l i).2) * (pr l k).1) * 1048576) (r * ((pr l k).2 - (pr l i).2)) else ly)) (v := .int .i64 (min ly (cq ((((pr l k).2 - r) * (pr l i).1 + (r - (pr l i).2) * (pr l k).1) * 1048576) (r * ((pr l k).2 - (pr l i).2))))) hF (by kernel_rfl) (fun _ => by kernel_rfl) (vi (min_if _ _)) fun a hF => ?_)
                  refine sB 1 [(5, .int .i64 (min ly (cq ((((pr l k).2 - r) * (pr l i).1 + (r - (pr l i).2) * (pr l k).1) * 1048576) (r * ((pr l k).2 - (pr l i).2)))))] hF (by kernel_rfl) fun a hF => ?_
                  refine wpList_nil ?_
                  refine hK19 _ _ ?_
                  refine wp_region_lit ?_
                  refine sB 1 [(42, .int .i64 (k : Int))] hF (by kernel_rfl) fun a hF => ?_
                  refine wl (eP 43 (v0 := .int .i64 (IntKind.i64.wrap ((k : Int) + 1))) (v := .int .i64 ((k : Int) + 1)) hF (by kernel_rfl) (fun _ => by kernel_rfl) (wi (by omega)) fun a hF => ?_)
                  refine sB 1 [(9, .int .i64 ((k : Int) + 1))] hF (by kernel_rfl) fun a hF => ?_
                  refine wpList_nil ?_
                  refine hK16 _ _ ⟨(k + 1, min ly (cq ((((pr l k).2 - r) * (pr l i).1 + (r - (pr l i).2) * (pr l k).1) * 1048576) (r * ((pr l k).2 - (pr l i).2)))), ⟨((((((((Fr.nil hF).c hF (i := 7) rfl rfl).c hF (i := 6) rfl rfl).c hF (i := 4) rfl rfl).c hF (i := 1) rfl rfl).c hF (i := 0) rfl rfl).c hF (i := 9) rfl (vi (show ((k : Int) + 1 : Int) = ((k + 1) : Int) from by omega))).c hF (i := 5) rfl rfl), (hM.sub ((Sub.nil.c (k := 2) rfl rfl).c (k := 1) rfl rfl)), (show ((k + 1) : Int) ≤ (l.length : Int) from by omega), (show (min ly (cq ((((pr l k).2 - r) * (pr l i).1 + (r - (pr l i).2) * (pr l k).1) * 1048576) (r * ((pr l k).2 - (pr l i).2)))) = (clK r l i (k + 1)).1 from by exact clK_next (by assumption) (by omega))⟩, (show l.length - (k + 1) < l.length - k from by omega)⟩
                · skip
                  replace hF := hF.c hF (i := 57) (v := .bool false) rfl (bF hz10)
                  replace hF := hF.c hF (i := 58) (v := .bool false) rfl (bF hz10)
                  refine cF hF (by kernel_rfl) (by kernel_rfl) ?_
                  refine wp_skip ?_
                  refine hK19 _ _ ?_
                  refine wp_region_lit ?_
                  refine sB 1 [(42, .int .i64 (k : Int))] hF (by kernel_rfl) fun a hF => ?_
                  refine wl (eP 43 (v0 := .int .i64 (IntKind.i64.wrap ((k : Int) + 1))) (v := .int .i64 ((k : Int) + 1)) hF (by kernel_rfl) (fun _ => by kernel_rfl) (wi (by omega)) fun a hF => ?_)
                  refine sB 1 [(9, .int .i64 ((k : Int) + 1))] hF (by kernel_rfl) fun a hF => ?_
                  refine wpList_nil ?_
                  refine hK16 _ _ ⟨(k + 1, ly), ⟨((((((((Fr.nil hF).c hF (i := 7) rfl rfl).c hF (i := 6) rfl rfl).c hF (i := 4) rfl rfl).c hF (i := 1) rfl rfl).c hF (i := 0) rfl rfl).c hF (i := 9) rfl (vi (show ((k : Int) + 1 : Int) = ((k + 1) : Int) from by omega))).c hF (i := 5) rfl rfl), (hM.sub ((Sub.nil.c (k := 2) rfl rfl).c (k := 1) rfl rfl)), (show ((k + 1) : Int) ≤ (l.length : Int) from by omega), (show ly = (clK r l i (k + 1)).1 from by rw [clK_skip (by omega)]; assumption)⟩, (show l.length - (k + 1) < l.length - k from by omega)⟩
              · skip
                have hbk := bk_all hb k (by omega)
                refine wp_region_lit ?_
                refine sB 1 [(48, .pointer (some ⟨bb2, 1, none⟩))] hF (by kernel_rfl) fun a hF => ?_
                refine wl (eL 49 3 1 (v := .int .i64 (pr l k).2) hF hM (by kernel_rfl) rfl rfl (by kernel_rfl) (by kernel_rfl) fun a w hF hM => ?_)
                refine sB 1 [(50, .int .i64 r)] hF (by kernel_rfl) fun a hF => ?_
                refine wl (eP 51 (v0 := .bool (decide (r < (pr l k).2))) (v := .bool false) hF (by kernel_rfl) (fun _ => by kernel_rfl) (bF hz9) fun a hF => ?_)
                refine sB 7 [(52, .bool false), (53, undef), (54, undef), (55, undef), (56, undef), (57, undef), (58, .bool false)] hF (by kernel_rfl) fun a hF => ?_
                refine wpList_nil ?_
                refine hK21 _ _ ?_
                refine cF hF (by kernel_rfl) (by kernel_rfl) ?_
                refine wp_skip ?_
                refine hK19 _ _ ?_
                refine wp_region_lit ?_
                refine sB 1 [(42, .int .i64 (k : Int))] hF (by kernel_rfl) fun a hF => ?_
                refine wl (eP 43 (v0 := .int .i64 (IntKind.i64.wrap ((k : Int) + 1))) (v := .int .i64 ((k : Int) + 1)) hF (by kernel_rfl) (fun _ => by kernel_rfl) (wi (by omega)) fun a hF => ?_)
                refine sB 1 [(9, .int .i64 ((k : Int) + 1))] hF (by kernel_rfl) fun a hF => ?_
                refine wpList_nil ?_
                refine hK16 _ _ ⟨(k + 1, ly), ⟨((((((((Fr.nil hF).c hF (i := 7) rfl rfl).c hF (i := 6) rfl rfl).c hF (i := 4) rfl rfl).c hF (i := 1) rfl rfl).c hF (i := 0) rfl rfl).c hF (i := 9) rfl (vi (show ((k : Int) + 1 : Int) = ((k + 1) : Int) from by omega))).c hF (i := 5) rfl rfl), (hM.sub ((Sub.nil.c (k := 2) rfl rfl).c (k := 1) rfl rfl)), (show ((k + 1) : Int) ≤ (l.length : Int) from by omega), (show ly = (clK r l i (k + 1)).1 from by rw [clK_skip (by omega)]; assumption)⟩, (show l.length - (k + 1) < l.length - k from by omega)⟩
            · skip
              replace hF := hF.c hF (i := 41) (v := .bool false) rfl (bF hz8)
              refine cF hF (by kernel_rfl) (by kernel_rfl) ?_
              refine wp_exit ?_
              refine hK8 _ _ ?_
              refine wp_region_lit ?_
              refine sB 1 [(15, .int .i64 (i : Int))] hF (by kernel_rfl) fun a hF => ?_
              refine wl (eP 16 (v0 := .int .i64 (IntKind.i64.wrap ((i : Int) + 1))) (v := .int .i64 ((i : Int) + 1)) hF (by kernel_rfl) (fun _ => by kernel_rfl) (wi (by omega)) fun a hF => ?_)
              refine sB 1 [(6, .int .i64 ((i : Int) + 1))] hF (by kernel_rfl) fun a hF => ?_
              refine wpList_nil ?_
              refine hK5 _ _ ⟨(i + 1, ly), ⟨((((((Fr.nil hF).c hF (i := 4) rfl rfl).c hF (i := 1) rfl rfl).c hF (i := 0) rfl rfl).c hF (i := 6) rfl (vi (show ((i : Int) + 1 : Int) = ((i + 1) : Int) from by omega))).c hF (i := 5) rfl rfl), (hM.sub (Sub.nil.c (k := 1) rfl rfl)), (show ((i + 1) : Int) ≤ (l.length : Int) from by omega), (show ly = rcl (clF (dAll r l (i + 1))) from by exact clK_last (k := k) (by omega) (by omega) (by assumption))⟩, (show l.length - (i + 1) < l.length - i from by omega)⟩
        · skip
          have hcf := clK_first (r := r) (l := l) (i := i) (x := lx) (by assumption) (fun y hy => (dAll_in hr (bk_all hb) i (by omega) y hy).1)
          refine wp_region_lit ?_
          refine sB 1 [(30, .int .i64 lx)] hF (by kernel_rfl) fun a hF => ?_
          refine wl (eP 31 (v0 := .bool (decide (lx < 0))) (v := .bool false) hF (by kernel_rfl) (fun _ => by kernel_rfl) (bF hz5) fun a hF => ?_)
          refine sB 5 [(32, .bool false), (33, .int .i64 (cq ((pr l i).1 * 1048576) r)), (34, .int .i64 lx), (35, .bool (decide (cq ((pr l i).1 * 1048576) r < lx))), (36, .bool (decide (cq ((pr l i).1 * 1048576) r < lx)))] hF (by kernel_rfl) fun a hF => ?_
          refine wpList_nil ?_
          refine hK14 _ _ ?_
          by_cases hz14 : cq ((pr l i).1 * 1048576) r < lx
          · skip
            replace hF := hF.c hF (i := 35) (v := .bool true) rfl (bT hz14)
            replace hF := hF.c hF (i := 36) (v := .bool true) rfl (bT hz14)
            refine cT hF (by kernel_rfl) (by kernel_rfl) ?_
            refine wp_region_lit ?_
            refine sB 2 [(37, .int .i64 (cq ((pr l i).1 * 1048576) r)), (5, .int .i64 (cq ((pr l i).1 * 1048576) r))] hF (by kernel_rfl) fun a hF => ?_
            refine wpList_nil ?_
            refine hK13 _ _ ?_
            refine wp_seq_k fun K22 hK22 => ?_
            refine wp_region_lit ?_
            refine sB 1 [(9, .int .i64 0)] hF (by kernel_rfl) fun a hF => ?_
            refine wpList_nil ?_
            refine hK22 _ _ ?_
            refine wp_block ?_
            refine wp_loop_k (G := Nat × Int) (fun gg a w => Fr 86 [(5, some (.int .i64 gg.2)), (9, some (.int .i64 (gg.1 : Int))), (0, some (.slice A l.length c)), (1, some (.int .i64 r)), (4, some (.int .i64 0)), (6, some (.int .i64 (i : Int))), (7, some (.pointer (some ⟨bb1, 0, none⟩)))] a ∧ Mem w0.heap.size w0 [(1, some (.ro A (flat2 l))), (2, some (.row bb1 39 #[.int .i64 (pr l i).1, .int .i64 (pr l i).2]))] w ∧ ((gg.1 : Int) ≤ (l.length : Int)) ∧ (gg.2 = (clK r l i gg.1).1)) (fun gg => l.length - gg.1) (0, cq ((pr l i).1 * 1048576) r) ?_ ?_
            · refine ⟨((((((((Fr.nil hF).c hF (i := 7) rfl rfl).c hF (i := 6) rfl rfl).c hF (i := 4) rfl rfl).c hF (i := 1) rfl rfl).c hF (i := 0) rfl rfl).c hF (i := 9) rfl (vi (show (0 : Int) = (0 : Int) from by omega))).c hF (i := 5) rfl rfl), (hM.sub ((Sub.nil.c (k := 2) rfl rfl).c (k := 1) rfl rfl)), (show (0 : Int) ≤ (l.length : Int) from by omega), (show (cq ((pr l i).1 * 1048576) r) = (clK r l i 0).1 from by first | exact (hcf.1 (by omega)).symm | exact (hcf.2 (by omega)).symm)⟩
            · intro gg a w hI
              intro K23 hK23
              obtain ⟨k, ly⟩ := gg
              try dsimp only at hI hK23
              obtain ⟨hF, hM, hz15, hz16⟩ := hI
              refine wp_seq_k fun K24 hK24 => ?_
              refine wp_seq_k fun K25 hK25 => ?_
              refine wp_region_lit ?_
              refine sB 4 [(38, .int .i64 (k : Int)), (39, .slice A l.length c), (40, .int .i64 (l.length : Int)), (41, .bool (decide ((k : Int) < (l.length : Int))))] hF (by kernel_rfl) fun a hF => ?_
              refine wpList_nil ?_
              refine hK25 _ _ ?_
              by_cases hz17 : (k : Int) < (l.length : Int)
              · skip
                replace hF := hF.c hF (i := 41) (v := .bool true) rfl (bT hz17)
                refine cT hF (by kernel_rfl) (by kernel_rfl) ?_
                refine wp_skip ?_
                refine hK24 _ _ ?_
                refine wp_seq_k fun K26 hK26 => ?_
                refine wp_block ?_
                refine wp_seq_k fun K27 hK27 => ?_
                refine wp_region_lit ?_
                refine sB 2 [(44, .slice A l.length c), (45, .int .i64 (k : Int))] hF (by kernel_rfl) fun a hF => ?_
                refine wl (eM 46 (v := .pointer (some (ea A (k * 2)))) hF hM (by kernel_rfl) (yld_ix (kd := .i64) (e := 39) (len := l.length) (cap := c) (i := (k : Int)) (size := 2) (A := A) hF rfl (by kernel_rfl) (by kernel_rfl) (by kernel_rfl) (by kernel_rfl) (by kernel_rfl) (roK 1 rfl) (by omega) (by omega) (by rw [flat2_length]; omega)) fun a w hF hM => ?_)
                refine wl (eM 47 (v := .agg #[.int .i64 (pr l k).1, .int .i64 (pr l k).2]) hF hM (by kernel_rfl) (yld_roM (A := A) (j := k * 2) (us := [.int .i64 (pr l k).1, .int .i64 (pr l k).2]) hF rfl (by kernel_rfl) (by kernel_rfl) (roK 1 rfl) (by kernel_rfl) rfl (pr_both (k := k) (by omega) (by omega))) fun a w hF hM => ?_)
                refine wl (eN 10 4 (t := 39) (fun b => .pointer (some ⟨b, 0, none⟩)) #[.int .i64 0, .int .i64 0] hF hM (by kernel_rfl) (fun _ => by kernel_rfl) fun bb3 a w hF hM => ?_)
                refine wl (sStore (i := 4) (off := 0) (cs' := #[.int .i64 (pr l k).1, .int .i64 (pr l k).2]) hF hM (by kernel_rfl) rfl rfl (by kernel_rfl) (by kernel_rfl) rfl (by kernel_rfl) fun w hM => ?_)
                refine wpList_nil ?_
                refine hK27 _ _ ?_
                refine wp_seq_k fun K28 hK28 => ?_
                have hbk := bk_all hb k (by omega)
                by_cases hz18 : r < (pr l k).2
                · skip
                  have hbk := bk_all hb k (by omega)
                  refine wp_region_lit ?_
                  refine sB 1 [(48, .pointer (some ⟨bb3, 1, none⟩))] hF (by kernel_rfl) fun a hF => ?_
                  refine wl (eL 49 4 1 (v := .int .i64 (pr l k).2) hF hM (by kernel_rfl) rfl rfl (by kernel_rfl) (by kernel_rfl) fun a w hF hM => ?_)
                  refine sB 1 [(50, .int .i64 r)] hF (by kernel_rfl) fun a hF => ?_
                  refine wl (eP 51 (v0 := .bool (decide (r < (pr l k).2))) (v := .bool true) hF (by kernel_rfl) (fun _ => by kernel_rfl) (bT hz18) fun a hF => ?_)
                  refine sB 2 [(52, .bool true), (53, .pointer (some ⟨bb3, 0, none⟩))] hF (by kernel_rfl) fun a hF => ?_
                  refine wl (eL 54 4 0 (v := .int .i64 (pr l k).1) hF hM (by kernel_rfl) rfl rfl (by kernel_rfl) (by kernel_rfl) fun a w hF hM => ?_)
                  refine sB 1 [(55, .pointer (some ⟨bb1, 0, none⟩))] hF (by kernel_rfl) fun a hF => ?_
                  refine wl (eL 56 2 0 (v := .int .i64 (pr l i).1) hF hM (by kernel_rfl) rfl rfl (by kernel_rfl) (by kernel_rfl) fun a w hF hM => ?_)
                  refine sB 2 [(57, .bool (decide ((pr l k).1 < (pr l i).1))), (58, .bool (decide ((pr l k).1 < (pr l i).1)))] hF (by kernel_rfl) fun a hF => ?_
                  refine wpList_nil ?_
                  refine hK28 _ _ ?_
                  by_cases hz19 : (pr l k).1 < (pr l i).1
                  · skip
                    replace hF := hF.c hF (i := 57) (v := .bool true) rfl (bT hz19)
                    replace hF := hF.c hF (i := 58) (v := .bool true) rfl (bT hz19)
                    refine cT hF (by kernel_rfl) (by kernel_rfl) ?_
                    refine wp_region_lit ?_
                    refine sB 2 [(59, .int .i64 ly), (60, .pointer (some ⟨bb3, 1, none⟩))] hF (by kernel_rfl) fun a hF => ?_
                    refine wl (eL 61 4 1 (v := .int .i64 (pr l k).2) hF hM (by kernel_rfl) rfl rfl (by kernel_rfl) (by kernel_rfl) fun a w hF hM => ?_)
                    refine sB 1 [(62, .int .i64 r)] hF (by kernel_rfl) fun a hF => ?_
                    refine wl (eP 63 (v0 := .int .i64 (IntKind.i64.wrap ((pr l k).2 - r))) (v := .int .i64 ((pr l k).2 - r)) hF (by kernel_rfl) (fun _ => by kernel_rfl) (wi (by omega)) fun a hF => ?_)
                    refine sB 1 [(64, .pointer (some ⟨bb1, 0, none⟩))] hF (by kernel_rfl) fun a hF => ?_
                    refine wl (eL 65 2 0 (v := .int .i64 (pr l i).1) hF hM (by kernel_rfl) rfl rfl (by kernel_rfl) (by kernel_rfl) fun a w hF hM => ?_)
                    have hz20 : 2 ≤ ((pr l k).2 - r) * (pr l i).1 ∧ ((pr l k).2 - r) * (pr l i).1 ≤ 2199022206976 := mul_bd (1) (2097151) (2) (1048576) (by omega) (by omega) (by omega) (by omega) (by decide)
                    refine wl (eP 66 (v0 := .int .i64 (IntKind.i64.wrap (((pr l k).2 - r) * (pr l i).1))) (v := .int .i64 (((pr l k).2 - r) * (pr l i).1)) hF (by kernel_rfl) (fun _ => by kernel_rfl) (wi (by omega)) fun a hF => ?_)
                    refine sB 2 [(67, .int .i64 r), (68, .pointer (some ⟨bb1, 1, none⟩))] hF (by kernel_rfl) fun a hF => ?_
                    refine wl (eL 69 2 1 (v := .int .i64 (pr l i).2) hF hM (by kernel_rfl) rfl rfl (by kernel_rfl) (by kernel_rfl) fun a w hF hM => ?_)
                    refine wl (eP 70 (v0 := .int .i64 (IntKind.i64.wrap (r - (pr l i).2))) (v := .int .i64 (r - (pr l i).2)) hF (by kernel_rfl) (fun _ => by kernel_rfl) (wi (by omega)) fun a hF => ?_)
                    refine sB 1 [(71, .pointer (some ⟨bb3, 0, none⟩))] hF (by kernel_rfl) fun a hF => ?_
                    refine wl (eL 72 4 0 (v := .int .i64 (pr l k).1) hF hM (by kernel_rfl) rfl rfl (by kernel_rfl) (by kernel_rfl) fun a w hF hM => ?_)
                    have hz21 : 0 ≤ (r - (pr l i).2) * (pr l k).1 ∧ (r - (pr l i).2) * (pr l k).1 ≤ 2199019061250 := mul_bd (0) (2097150) (1) (1048575) (by omega) (by omega) (by omega) (by omega) (by decide)
                    refine wl (eP 73 (v0 := .int .i64 (IntKind.i64.wrap ((r - (pr l i).2) * (pr l k).1))) (v := .int .i64 ((r - (pr l i).2) * (pr l k).1)) hF (by kernel_rfl) (fun _ => by kernel_rfl) (wi (by omega)) fun a hF => ?_)
                    refine wl (eP 74 (v0 := .int .i64 (IntKind.i64.wrap (((pr l k).2 - r) * (pr l i).1 + (r - (pr l i).2) * (pr l k).1))) (v := .int .i64 (((pr l k).2 - r) * (pr l i).1 + (r - (pr l i).2) * (pr l k).1)) hF (by kernel_rfl) (fun _ => by kernel_rfl) (wi (by omega)) fun a hF => ?_)
                    refine wl (eP 75 (v0 := .int .i64 (IntKind.i64.wrap ((((pr l k).2 - r) * (pr l i).1 + (r - (pr l i).2) * (pr l k).1) * 1048576))) (v := .int .i64 ((((pr l k).2 - r) * (pr l i).1 + (r - (pr l i).2) * (pr l k).1) * 1048576)) hF (by kernel_rfl) (fun _ => by kernel_rfl) (wi (by omega)) fun a hF => ?_)
                    refine sB 2 [(76, .int .i64 r), (77, .pointer (some ⟨bb3, 1, none⟩))] hF (by kernel_rfl) fun a hF => ?_
                    refine wl (eL 78 4 1 (v := .int .i64 (pr l k).2) hF hM (by kernel_rfl) rfl rfl (by kernel_rfl) (by kernel_rfl) fun a w hF hM => ?_)
                    refine sB 1 [(79, .pointer (some ⟨bb1, 1, none⟩))] hF (by kernel_rfl) fun a hF => ?_
                    refine wl (eL 80 2 1 (v := .int .i64 (pr l i).2) hF hM (by kernel_rfl) rfl rfl (by kernel_rfl) (by kernel_rfl) fun a w hF hM => ?_)
                    refine wl (eP 81 (v0 := .int .i64 (IntKind.i64.wrap ((pr l k).2 - (pr l i).2))) (v := .int .i64 ((pr l k).2 - (pr l i).2)) hF (by kernel_rfl) (fun _ => by kernel_rfl) (wi (by omega)) fun a hF => ?_)
                    have hz22 : 1 ≤ r * ((pr l k).2 - (pr l i).2) ∧ r * ((pr l k).2 - (pr l i).2) ≤ 4398042316801 := mul_bd (1) (2097151) (1) (2097151) (by omega) (by omega) (by omega) (by omega) (by decide)
                    refine wl (eP 82 (v0 := .int .i64 (IntKind.i64.wrap (r * ((pr l k).2 - (pr l i).2)))) (v := .int .i64 (r * ((pr l k).2 - (pr l i).2))) hF (by kernel_rfl) (fun _ => by kernel_rfl) (wi (by omega)) fun a hF => ?_)
                    refine wl (eM 83 (v := .int .i64 (cq ((((pr l k).2 - r) * (pr l i).1 + (r - (pr l i).2) * (pr l k).1) * 1048576) (r * ((pr l k).2 - (pr l i).2)))) hF hM (by kernel_rfl) (yld_call (f := 48) (args := #[.int .i64 ((((pr l k).2 - r) * (pr l i).1 + (r - (pr l i).2) * (pr l k).1) * 1048576), .int .i64 (r * ((pr l k).2 - (pr l i).2))]) hF (by kernel_rfl) (fun _ => by kernel_rfl) (fun w hM => rCeil4_w ((((pr l k).2 - r) * (pr l i).1 + (r - (pr l i).2) * (pr l k).1) * 1048576) (r * ((pr l k).2 - (pr l i).2)) w (by omega))) fun a w hF hM => ?_)
                    have := cq_in (n := (((pr l k).2 - r) * (pr l i).1 + (r - (pr l i).2) * (pr l k).1) * 1048576) (d := r * ((pr l k).2 - (pr l i).2)) (B := 4611680520871346176) (by omega) (by omega) (by omega)
                    refine wl (eP 84 (v0 := .int .i64 (if cq ((((pr l k).2 - r) * (pr l i).1 + (r - (pr l i).2) * (pr l k).1) * 1048576) (r * ((pr l k).2 - (pr l i).2)) < ly then cq ((((pr l k).2 - r) * (pr l i).1 + (r - (pr l i).2) * (pr l k).1) * 1048576) (r * ((pr l k).2 - (pr l i).2)) else ly)) (v := .int .i64 (min ly (cq ((((pr l k).2 - r) * (pr l i).1 + (r - (pr l i).2) * (pr l k).1) * 1048576) (r * ((pr l k).2 - (pr l i).2))))) hF (by kernel_rfl) (fun _ => by kernel_rfl) (vi (min_if _ _)) fun a hF => ?_)
                    refine sB 1 [(5, .int .i64 (min ly (cq ((((pr l k).2 - r) * (pr l i).1 + (r - (pr l i).2) * (pr l k).1) * 1048576) (r * ((pr l k).2 - (pr l i).2)))))] hF (by kernel_rfl) fun a hF => ?_
                    refine wpList_nil ?_
                    refine hK26 _ _ ?_
                    refine wp_region_lit ?_
                    refine sB 1 [(42, .int .i64 (k : Int))] hF (by kernel_rfl) fun a hF => ?_
                    refine wl (eP 43 (v0 := .int .i64 (IntKind.i64.wrap ((k : Int) + 1))) (v := .int .i64 ((k : Int) + 1)) hF (by kernel_rfl) (fun _ => by kernel_rfl) (wi (by omega)) fun a hF => ?_)
                    refine sB 1 [(9, .int .i64 ((k : Int) + 1))] hF (by kernel_rfl) fun a hF => ?_
                    refine wpList_nil ?_
                    refine hK23 _ _ ⟨(k + 1, min ly (cq ((((pr l k).2 - r) * (pr l i).1 + (r - (pr l i).2) * (pr l k).1) * 1048576) (r * ((pr l k).2 - (pr l i).2)))), ⟨((((((((Fr.nil hF).c hF (i := 7) rfl rfl).c hF (i := 6) rfl rfl).c hF (i := 4) rfl rfl).c hF (i := 1) rfl rfl).c hF (i := 0) rfl rfl).c hF (i := 9) rfl (vi (show ((k : Int) + 1 : Int) = ((k + 1) : Int) from by omega))).c hF (i := 5) rfl rfl), (hM.sub ((Sub.nil.c (k := 2) rfl rfl).c (k := 1) rfl rfl)), (show ((k + 1) : Int) ≤ (l.length : Int) from by omega), (show (min ly (cq ((((pr l k).2 - r) * (pr l i).1 + (r - (pr l i).2) * (pr l k).1) * 1048576) (r * ((pr l k).2 - (pr l i).2)))) = (clK r l i (k + 1)).1 from by exact clK_next (by assumption) (by omega))⟩, (show l.length - (k + 1) < l.length - k from by omega)⟩
                  · skip
                    replace hF := hF.c hF (i := 57) (v := .bool false) rfl (bF hz19)
                    replace hF := hF.c hF (i := 58) (v := .bool false) rfl (bF hz19)
                    refine cF hF (by kernel_rfl) (by kernel_rfl) ?_
                    refine wp_skip ?_
                    refine hK26 _ _ ?_
                    refine wp_region_lit ?_
                    refine sB 1 [(42, .int .i64 (k : Int))] hF (by kernel_rfl) fun a hF => ?_
                    refine wl (eP 43 (v0 := .int .i64 (IntKind.i64.wrap ((k : Int) + 1))) (v := .int .i64 ((k : Int) + 1)) hF (by kernel_rfl) (fun _ => by kernel_rfl) (wi (by omega)) fun a hF => ?_)
                    refine sB 1 [(9, .int .i64 ((k : Int) + 1))] hF (by kernel_rfl) fun a hF => ?_
                    refine wpList_nil ?_
                    refine hK23 _ _ ⟨(k + 1, ly), ⟨((((((((Fr.nil hF).c hF (i := 7) rfl rfl).c hF (i := 6) rfl rfl).c hF (i := 4) rfl rfl).c hF (i := 1) rfl rfl).c hF (i := 0) rfl rfl).c hF (i := 9) rfl (vi (show ((k : Int) + 1 : Int) = ((k + 1) : Int) from by omega))).c hF (i := 5) rfl rfl), (hM.sub ((Sub.nil.c (k := 2) rfl rfl).c (k := 1) rfl rfl)), (show ((k + 1) : Int) ≤ (l.length : Int) from by omega), (show ly = (clK r l i (k + 1)).1 from by rw [clK_skip (by omega)]; assumption)⟩, (show l.length - (k + 1) < l.length - k from by omega)⟩
                · skip
                  have hbk := bk_all hb k (by omega)
                  refine wp_region_lit ?_
                  refine sB 1 [(48, .pointer (some ⟨bb3, 1, none⟩))] hF (by kernel_rfl) fun a hF => ?_
                  refine wl (eL 49 4 1 (v := .int .i64 (pr l k).2) hF hM (by kernel_rfl) rfl rfl (by kernel_rfl) (by kernel_rfl) fun a w hF hM => ?_)
                  refine sB 1 [(50, .int .i64 r)] hF (by kernel_rfl) fun a hF => ?_
                  refine wl (eP 51 (v0 := .bool (decide (r < (pr l k).2))) (v := .bool false) hF (by kernel_rfl) (fun _ => by kernel_rfl) (bF hz18) fun a hF => ?_)
                  refine sB 7 [(52, .bool false), (53, undef), (54, undef), (55, undef), (56, undef), (57, undef), (58, .bool false)] hF (by kernel_rfl) fun a hF => ?_
                  refine wpList_nil ?_
                  refine hK28 _ _ ?_
                  refine cF hF (by kernel_rfl) (by kernel_rfl) ?_
                  refine wp_skip ?_
                  refine hK26 _ _ ?_
                  refine wp_region_lit ?_
                  refine sB 1 [(42, .int .i64 (k : Int))] hF (by kernel_rfl) fun a hF => ?_
                  refine wl (eP 43 (v0 := .int .i64 (IntKind.i64.wrap ((k : Int) + 1))) (v := .int .i64 ((k : Int) + 1)) hF (by kernel_rfl) (fun _ => by kernel_rfl) (wi (by omega)) fun a hF => ?_)
                  refine sB 1 [(9, .int .i64 ((k : Int) + 1))] hF (by kernel_rfl) fun a hF => ?_
                  refine wpList_nil ?_
                  refine hK23 _ _ ⟨(k + 1, ly), ⟨((((((((Fr.nil hF).c hF (i := 7) rfl rfl).c hF (i := 6) rfl rfl).c hF (i := 4) rfl rfl).c hF (i := 1) rfl rfl).c hF (i := 0) rfl rfl).c hF (i := 9) rfl (vi (show ((k : Int) + 1 : Int) = ((k + 1) : Int) from by omega))).c hF (i := 5) rfl rfl), (hM.sub ((Sub.nil.c (k := 2) rfl rfl).c (k := 1) rfl rfl)), (show ((k + 1) : Int) ≤ (l.length : Int) from by omega), (show ly = (clK r l i (k + 1)).1 from by rw [clK_skip (by omega)]; assumption)⟩, (show l.length - (k + 1) < l.length - k from by omega)⟩
              · skip
                replace hF := hF.c hF (i := 41) (v := .bool false) rfl (bF hz17)
                refine cF hF (by kernel_rfl) (by kernel_rfl) ?_
                refine wp_exit ?_
                refine hK8 _ _ ?_
                refine wp_region_lit ?_
                refine sB 1 [(15, .int .i64 (i : Int))] hF (by kernel_rfl) fun a hF => ?_
                refine wl (eP 16 (v0 := .int .i64 (IntKind.i64.wrap ((i : Int) + 1))) (v := .int .i64 ((i : Int) + 1)) hF (by kernel_rfl) (fun _ => by kernel_rfl) (wi (by omega)) fun a hF => ?_)
                refine sB 1 [(6, .int .i64 ((i : Int) + 1))] hF (by kernel_rfl) fun a hF => ?_
                refine wpList_nil ?_
                refine hK5 _ _ ⟨(i + 1, ly), ⟨((((((Fr.nil hF).c hF (i := 4) rfl rfl).c hF (i := 1) rfl rfl).c hF (i := 0) rfl rfl).c hF (i := 6) rfl (vi (show ((i : Int) + 1 : Int) = ((i + 1) : Int) from by omega))).c hF (i := 5) rfl rfl), (hM.sub (Sub.nil.c (k := 1) rfl rfl)), (show ((i + 1) : Int) ≤ (l.length : Int) from by omega), (show ly = rcl (clF (dAll r l (i + 1))) from by exact clK_last (k := k) (by omega) (by omega) (by assumption))⟩, (show l.length - (i + 1) < l.length - i from by omega)⟩
          · skip
            replace hF := hF.c hF (i := 35) (v := .bool false) rfl (bF hz14)
            replace hF := hF.c hF (i := 36) (v := .bool false) rfl (bF hz14)
            refine cF hF (by kernel_rfl) (by kernel_rfl) ?_
            refine wp_skip ?_
            refine hK13 _ _ ?_
            refine wp_seq_k fun K29 hK29 => ?_
            refine wp_region_lit ?_
            refine sB 1 [(9, .int .i64 0)] hF (by kernel_rfl) fun a hF => ?_
            refine wpList_nil ?_
            refine hK29 _ _ ?_
            refine wp_block ?_
            refine wp_loop_k (G := Nat × Int) (fun gg a w => Fr 86 [(5, some (.int .i64 gg.2)), (9, some (.int .i64 (gg.1 : Int))), (0, some (.slice A l.length c)), (1, some (.int .i64 r)), (4, some (.int .i64 0)), (6, some (.int .i64 (i : Int))), (7, some (.pointer (some ⟨bb1, 0, none⟩)))] a ∧ Mem w0.heap.size w0 [(1, some (.ro A (flat2 l))), (2, some (.row bb1 39 #[.int .i64 (pr l i).1, .int .i64 (pr l i).2]))] w ∧ ((gg.1 : Int) ≤ (l.length : Int)) ∧ (gg.2 = (clK r l i gg.1).1)) (fun gg => l.length - gg.1) (0, lx) ?_ ?_
            · refine ⟨((((((((Fr.nil hF).c hF (i := 7) rfl rfl).c hF (i := 6) rfl rfl).c hF (i := 4) rfl rfl).c hF (i := 1) rfl rfl).c hF (i := 0) rfl rfl).c hF (i := 9) rfl (vi (show (0 : Int) = (0 : Int) from by omega))).c hF (i := 5) rfl rfl), (hM.sub ((Sub.nil.c (k := 2) rfl rfl).c (k := 1) rfl rfl)), (show (0 : Int) ≤ (l.length : Int) from by omega), (show lx = (clK r l i 0).1 from by first | exact (hcf.1 (by omega)).symm | exact (hcf.2 (by omega)).symm)⟩
            · intro gg a w hI
              intro K30 hK30
              obtain ⟨k, ly⟩ := gg
              try dsimp only at hI hK30
              obtain ⟨hF, hM, hz23, hz24⟩ := hI
              refine wp_seq_k fun K31 hK31 => ?_
              refine wp_seq_k fun K32 hK32 => ?_
              refine wp_region_lit ?_
              refine sB 4 [(38, .int .i64 (k : Int)), (39, .slice A l.length c), (40, .int .i64 (l.length : Int)), (41, .bool (decide ((k : Int) < (l.length : Int))))] hF (by kernel_rfl) fun a hF => ?_
              refine wpList_nil ?_
              refine hK32 _ _ ?_
              by_cases hz25 : (k : Int) < (l.length : Int)
              · skip
                replace hF := hF.c hF (i := 41) (v := .bool true) rfl (bT hz25)
                refine cT hF (by kernel_rfl) (by kernel_rfl) ?_
                refine wp_skip ?_
                refine hK31 _ _ ?_
                refine wp_seq_k fun K33 hK33 => ?_
                refine wp_block ?_
                refine wp_seq_k fun K34 hK34 => ?_
                refine wp_region_lit ?_
                refine sB 2 [(44, .slice A l.length c), (45, .int .i64 (k : Int))] hF (by kernel_rfl) fun a hF => ?_
                refine wl (eM 46 (v := .pointer (some (ea A (k * 2)))) hF hM (by kernel_rfl) (yld_ix (kd := .i64) (e := 39) (len := l.length) (cap := c) (i := (k : Int)) (size := 2) (A := A) hF rfl (by kernel_rfl) (by kernel_rfl) (by kernel_rfl) (by kernel_rfl) (by kernel_rfl) (roK 1 rfl) (by omega) (by omega) (by rw [flat2_length]; omega)) fun a w hF hM => ?_)
                refine wl (eM 47 (v := .agg #[.int .i64 (pr l k).1, .int .i64 (pr l k).2]) hF hM (by kernel_rfl) (yld_roM (A := A) (j := k * 2) (us := [.int .i64 (pr l k).1, .int .i64 (pr l k).2]) hF rfl (by kernel_rfl) (by kernel_rfl) (roK 1 rfl) (by kernel_rfl) rfl (pr_both (k := k) (by omega) (by omega))) fun a w hF hM => ?_)
                refine wl (eN 10 5 (t := 39) (fun b => .pointer (some ⟨b, 0, none⟩)) #[.int .i64 0, .int .i64 0] hF hM (by kernel_rfl) (fun _ => by kernel_rfl) fun bb4 a w hF hM => ?_)
                refine wl (sStore (i := 5) (off := 0) (cs' := #[.int .i64 (pr l k).1, .int .i64 (pr l k).2]) hF hM (by kernel_rfl) rfl rfl (by kernel_rfl) (by kernel_rfl) rfl (by kernel_rfl) fun w hM => ?_)
                refine wpList_nil ?_
                refine hK34 _ _ ?_
                refine wp_seq_k fun K35 hK35 => ?_
                have hbk := bk_all hb k (by omega)
                by_cases hz26 : r < (pr l k).2
                · skip
                  have hbk := bk_all hb k (by omega)
                  refine wp_region_lit ?_
                  refine sB 1 [(48, .pointer (some ⟨bb4, 1, none⟩))] hF (by kernel_rfl) fun a hF => ?_
                  refine wl (eL 49 5 1 (v := .int .i64 (pr l k).2) hF hM (by kernel_rfl) rfl rfl (by kernel_rfl) (by kernel_rfl) fun a w hF hM => ?_)
                  refine sB 1 [(50, .int .i64 r)] hF (by kernel_rfl) fun a hF => ?_
                  refine wl (eP 51 (v0 := .bool (decide (r < (pr l k).2))) (v := .bool true) hF (by kernel_rfl) (fun _ => by kernel_rfl) (bT hz26) fun a hF => ?_)
                  refine sB 2 [(52, .bool true), (53, .pointer (some ⟨bb4, 0, none⟩))] hF (by kernel_rfl) fun a hF => ?_
                  refine wl (eL 54 5 0 (v := .int .i64 (pr l k).1) hF hM (by kernel_rfl) rfl rfl (by kernel_rfl) (by kernel_rfl) fun a w hF hM => ?_)
                  refine sB 1 [(55, .pointer (some ⟨bb1, 0, none⟩))] hF (by kernel_rfl) fun a hF => ?_
                  refine wl (eL 56 2 0 (v := .int .i64 (pr l i).1) hF hM (by kernel_rfl) rfl rfl (by kernel_rfl) (by kernel_rfl) fun a w hF hM => ?_)
                  refine sB 2 [(57, .bool (decide ((pr l k).1 < (pr l i).1))), (58, .bool (decide ((pr l k).1 < (pr l i).1)))] hF (by kernel_rfl) fun a hF => ?_
                  refine wpList_nil ?_
                  refine hK35 _ _ ?_
                  by_cases hz27 : (pr l k).1 < (pr l i).1
                  · skip
                    replace hF := hF.c hF (i := 57) (v := .bool true) rfl (bT hz27)
                    replace hF := hF.c hF (i := 58) (v := .bool true) rfl (bT hz27)
                    refine cT hF (by kernel_rfl) (by kernel_rfl) ?_
                    refine wp_region_lit ?_
                    refine sB 2 [(59, .int .i64 ly), (60, .pointer (some ⟨bb4, 1, none⟩))] hF (by kernel_rfl) fun a hF => ?_
                    refine wl (eL 61 5 1 (v := .int .i64 (pr l k).2) hF hM (by kernel_rfl) rfl rfl (by kernel_rfl) (by kernel_rfl) fun a w hF hM => ?_)
                    refine sB 1 [(62, .int .i64 r)] hF (by kernel_rfl) fun a hF => ?_
                    refine wl (eP 63 (v0 := .int .i64 (IntKind.i64.wrap ((pr l k).2 - r))) (v := .int .i64 ((pr l k).2 - r)) hF (by kernel_rfl) (fun _ => by kernel_rfl) (wi (by omega)) fun a hF => ?_)
                    refine sB 1 [(64, .pointer (some ⟨bb1, 0, none⟩))] hF (by kernel_rfl) fun a hF => ?_
                    refine wl (eL 65 2 0 (v := .int .i64 (pr l i).1) hF hM (by kernel_rfl) rfl rfl (by kernel_rfl) (by kernel_rfl) fun a w hF hM => ?_)
                    have hz28 : 2 ≤ ((pr l k).2 - r) * (pr l i).1 ∧ ((pr l k).2 - r) * (pr l i).1 ≤ 2199022206976 := mul_bd (1) (2097151) (2) (1048576) (by omega) (by omega) (by omega) (by omega) (by decide)
                    refine wl (eP 66 (v0 := .int .i64 (IntKind.i64.wrap (((pr l k).2 - r) * (pr l i).1))) (v := .int .i64 (((pr l k).2 - r) * (pr l i).1)) hF (by kernel_rfl) (fun _ => by kernel_rfl) (wi (by omega)) fun a hF => ?_)
                    refine sB 2 [(67, .int .i64 r), (68, .pointer (some ⟨bb1, 1, none⟩))] hF (by kernel_rfl) fun a hF => ?_
                    refine wl (eL 69 2 1 (v := .int .i64 (pr l i).2) hF hM (by kernel_rfl) rfl rfl (by kernel_rfl) (by kernel_rfl) fun a w hF hM => ?_)
                    refine wl (eP 70 (v0 := .int .i64 (IntKind.i64.wrap (r - (pr l i).2))) (v := .int .i64 (r - (pr l i).2)) hF (by kernel_rfl) (fun _ => by kernel_rfl) (wi (by omega)) fun a hF => ?_)
                    refine sB 1 [(71, .pointer (some ⟨bb4, 0, none⟩))] hF (by kernel_rfl) fun a hF => ?_
                    refine wl (eL 72 5 0 (v := .int .i64 (pr l k).1) hF hM (by kernel_rfl) rfl rfl (by kernel_rfl) (by kernel_rfl) fun a w hF hM => ?_)
                    have hz29 : 0 ≤ (r - (pr l i).2) * (pr l k).1 ∧ (r - (pr l i).2) * (pr l k).1 ≤ 2199019061250 := mul_bd (0) (2097150) (1) (1048575) (by omega) (by omega) (by omega) (by omega) (by decide)
                    refine wl (eP 73 (v0 := .int .i64 (IntKind.i64.wrap ((r - (pr l i).2) * (pr l k).1))) (v := .int .i64 ((r - (pr l i).2) * (pr l k).1)) hF (by kernel_rfl) (fun _ => by kernel_rfl) (wi (by omega)) fun a hF => ?_)
                    refine wl (eP 74 (v0 := .int .i64 (IntKind.i64.wrap (((pr l k).2 - r) * (pr l i).1 + (r - (pr l i).2) * (pr l k).1))) (v := .int .i64 (((pr l k).2 - r) * (pr l i).1 + (r - (pr l i).2) * (pr l k).1)) hF (by kernel_rfl) (fun _ => by kernel_rfl) (wi (by omega)) fun a hF => ?_)
                    refine wl (eP 75 (v0 := .int .i64 (IntKind.i64.wrap ((((pr l k).2 - r) * (pr l i).1 + (r - (pr l i).2) * (pr l k).1) * 1048576))) (v := .int .i64 ((((pr l k).2 - r) * (pr l i).1 + (r - (pr l i).2) * (pr l k).1) * 1048576)) hF (by kernel_rfl) (fun _ => by kernel_rfl) (wi (by omega)) fun a hF => ?_)
                    refine sB 2 [(76, .int .i64 r), (77, .pointer (some ⟨bb4, 1, none⟩))] hF (by kernel_rfl) fun a hF => ?_
                    refine wl (eL 78 5 1 (v := .int .i64 (pr l k).2) hF hM (by kernel_rfl) rfl rfl (by kernel_rfl) (by kernel_rfl) fun a w hF hM => ?_)
                    refine sB 1 [(79, .pointer (some ⟨bb1, 1, none⟩))] hF (by kernel_rfl) fun a hF => ?_
                    refine wl (eL 80 2 1 (v := .int .i64 (pr l i).2) hF hM (by kernel_rfl) rfl rfl (by kernel_rfl) (by kernel_rfl) fun a w hF hM => ?_)
                    refine wl (eP 81 (v0 := .int .i64 (IntKind.i64.wrap ((pr l k).2 - (pr l i).2))) (v := .int .i64 ((pr l k).2 - (pr l i).2)) hF (by kernel_rfl) (fun _ => by kernel_rfl) (wi (by omega)) fun a hF => ?_)
                    have hz30 : 1 ≤ r * ((pr l k).2 - (pr l i).2) ∧ r * ((pr l k).2 - (pr l i).2) ≤ 4398042316801 := mul_bd (1) (2097151) (1) (2097151) (by omega) (by omega) (by omega) (by omega) (by decide)
                    refine wl (eP 82 (v0 := .int .i64 (IntKind.i64.wrap (r * ((pr l k).2 - (pr l i).2)))) (v := .int .i64 (r * ((pr l k).2 - (pr l i).2))) hF (by kernel_rfl) (fun _ => by kernel_rfl) (wi (by omega)) fun a hF => ?_)
                    refine wl (eM 83 (v := .int .i64 (cq ((((pr l k).2 - r) * (pr l i).1 + (r - (pr l i).2) * (pr l k).1) * 1048576) (r * ((pr l k).2 - (pr l i).2)))) hF hM (by kernel_rfl) (yld_call (f := 48) (args := #[.int .i64 ((((pr l k).2 - r) * (pr l i).1 + (r - (pr l i).2) * (pr l k).1) * 1048576), .int .i64 (r * ((pr l k).2 - (pr l i).2))]) hF (by kernel_rfl) (fun _ => by kernel_rfl) (fun w hM => rCeil4_w ((((pr l k).2 - r) * (pr l i).1 + (r - (pr l i).2) * (pr l k).1) * 1048576) (r * ((pr l k).2 - (pr l i).2)) w (by omega))) fun a w hF hM => ?_)
                    have := cq_in (n := (((pr l k).2 - r) * (pr l i).1 + (r - (pr l i).2) * (pr l k).1) * 1048576) (d := r * ((pr l k).2 - (pr l i).2)) (B := 4611680520871346176) (by omega) (by omega) (by omega)
                    refine wl (eP 84 (v0 := .int .i64 (if cq ((((pr l k).2 - r) * (pr l i).1 + (r - (pr l i).2) * (pr l k).1) * 1048576) (r * ((pr l k).2 - (pr l i).2)) < ly then cq ((((pr l k).2 - r) * (pr l i).1 + (r - (pr l i).2) * (pr l k).1) * 1048576) (r * ((pr l k).2 - (pr l i).2)) else ly)) (v := .int .i64 (min ly (cq ((((pr l k).2 - r) * (pr l i).1 + (r - (pr l i).2) * (pr l k).1) * 1048576) (r * ((pr l k).2 - (pr l i).2))))) hF (by kernel_rfl) (fun _ => by kernel_rfl) (vi (min_if _ _)) fun a hF => ?_)
                    refine sB 1 [(5, .int .i64 (min ly (cq ((((pr l k).2 - r) * (pr l i).1 + (r - (pr l i).2) * (pr l k).1) * 1048576) (r * ((pr l k).2 - (pr l i).2)))))] hF (by kernel_rfl) fun a hF => ?_
                    refine wpList_nil ?_
                    refine hK33 _ _ ?_
                    refine wp_region_lit ?_
                    refine sB 1 [(42, .int .i64 (k : Int))] hF (by kernel_rfl) fun a hF => ?_
                    refine wl (eP 43 (v0 := .int .i64 (IntKind.i64.wrap ((k : Int) + 1))) (v := .int .i64 ((k : Int) + 1)) hF (by kernel_rfl) (fun _ => by kernel_rfl) (wi (by omega)) fun a hF => ?_)
                    refine sB 1 [(9, .int .i64 ((k : Int) + 1))] hF (by kernel_rfl) fun a hF => ?_
                    refine wpList_nil ?_
                    refine hK30 _ _ ⟨(k + 1, min ly (cq ((((pr l k).2 - r) * (pr l i).1 + (r - (pr l i).2) * (pr l k).1) * 1048576) (r * ((pr l k).2 - (pr l i).2)))), ⟨((((((((Fr.nil hF).c hF (i := 7) rfl rfl).c hF (i := 6) rfl rfl).c hF (i := 4) rfl rfl).c hF (i := 1) rfl rfl).c hF (i := 0) rfl rfl).c hF (i := 9) rfl (vi (show ((k : Int) + 1 : Int) = ((k + 1) : Int) from by omega))).c hF (i := 5) rfl rfl), (hM.sub ((Sub.nil.c (k := 2) rfl rfl).c (k := 1) rfl rfl)), (show ((k + 1) : Int) ≤ (l.length : Int) from by omega), (show (min ly (cq ((((pr l k).2 - r) * (pr l i).1 + (r - (pr l i).2) * (pr l k).1) * 1048576) (r * ((pr l k).2 - (pr l i).2)))) = (clK r l i (k + 1)).1 from by exact clK_next (by assumption) (by omega))⟩, (show l.length - (k + 1) < l.length - k from by omega)⟩
                  · skip
                    replace hF := hF.c hF (i := 57) (v := .bool false) rfl (bF hz27)
                    replace hF := hF.c hF (i := 58) (v := .bool false) rfl (bF hz27)
                    refine cF hF (by kernel_rfl) (by kernel_rfl) ?_
                    refine wp_skip ?_
                    refine hK33 _ _ ?_
                    refine wp_region_lit ?_
                    refine sB 1 [(42, .int .i64 (k : Int))] hF (by kernel_rfl) fun a hF => ?_
                    refine wl (eP 43 (v0 := .int .i64 (IntKind.i64.wrap ((k : Int) + 1))) (v := .int .i64 ((k : Int) + 1)) hF (by kernel_rfl) (fun _ => by kernel_rfl) (wi (by omega)) fun a hF => ?_)
                    refine sB 1 [(9, .int .i64 ((k : Int) + 1))] hF (by kernel_rfl) fun a hF => ?_
                    refine wpList_nil ?_
                    refine hK30 _ _ ⟨(k + 1, ly), ⟨((((((((Fr.nil hF).c hF (i := 7) rfl rfl).c hF (i := 6) rfl rfl).c hF (i := 4) rfl rfl).c hF (i := 1) rfl rfl).c hF (i := 0) rfl rfl).c hF (i := 9) rfl (vi (show ((k : Int) + 1 : Int) = ((k + 1) : Int) from by omega))).c hF (i := 5) rfl rfl), (hM.sub ((Sub.nil.c (k := 2) rfl rfl).c (k := 1) rfl rfl)), (show ((k + 1) : Int) ≤ (l.length : Int) from by omega), (show ly = (clK r l i (k + 1)).1 from by rw [clK_skip (by omega)]; assumption)⟩, (show l.length - (k + 1) < l.length - k from by omega)⟩
                · skip
                  have hbk := bk_all hb k (by omega)
                  refine wp_region_lit ?_
                  refine sB 1 [(48, .pointer (some ⟨bb4, 1, none⟩))] hF (by kernel_rfl) fun a hF => ?_
                  refine wl (eL 49 5 1 (v := .int .i64 (pr l k).2) hF hM (by kernel_rfl) rfl rfl (by kernel_rfl) (by kernel_rfl) fun a w hF hM => ?_)
                  refine sB 1 [(50, .int .i64 r)] hF (by kernel_rfl) fun a hF => ?_
                  refine wl (eP 51 (v0 := .bool (decide (r < (pr l k).2))) (v := .bool false) hF (by kernel_rfl) (fun _ => by kernel_rfl) (bF hz26) fun a hF => ?_)
                  refine sB 7 [(52, .bool false), (53, undef), (54, undef), (55, undef), (56, undef), (57, undef), (58, .bool false)] hF (by kernel_rfl) fun a hF => ?_
                  refine wpList_nil ?_
                  refine hK35 _ _ ?_
                  refine cF hF (by kernel_rfl) (by kernel_rfl) ?_
                  refine wp_skip ?_
                  refine hK33 _ _ ?_
                  refine wp_region_lit ?_
                  refine sB 1 [(42, .int .i64 (k : Int))] hF (by kernel_rfl) fun a hF => ?_
                  refine wl (eP 43 (v0 := .int .i64 (IntKind.i64.wrap ((k : Int) + 1))) (v := .int .i64 ((k : Int) + 1)) hF (by kernel_rfl) (fun _ => by kernel_rfl) (wi (by omega)) fun a hF => ?_)
                  refine sB 1 [(9, .int .i64 ((k : Int) + 1))] hF (by kernel_rfl) fun a hF => ?_
                  refine wpList_nil ?_
                  refine hK30 _ _ ⟨(k + 1, ly), ⟨((((((((Fr.nil hF).c hF (i := 7) rfl rfl).c hF (i := 6) rfl rfl).c hF (i := 4) rfl rfl).c hF (i := 1) rfl rfl).c hF (i := 0) rfl rfl).c hF (i := 9) rfl (vi (show ((k : Int) + 1 : Int) = ((k + 1) : Int) from by omega))).c hF (i := 5) rfl rfl), (hM.sub ((Sub.nil.c (k := 2) rfl rfl).c (k := 1) rfl rfl)), (show ((k + 1) : Int) ≤ (l.length : Int) from by omega), (show ly = (clK r l i (k + 1)).1 from by rw [clK_skip (by omega)]; assumption)⟩, (show l.length - (k + 1) < l.length - k from by omega)⟩
              · skip
                replace hF := hF.c hF (i := 41) (v := .bool false) rfl (bF hz25)
                refine cF hF (by kernel_rfl) (by kernel_rfl) ?_
                refine wp_exit ?_
                refine hK8 _ _ ?_
                refine wp_region_lit ?_
                refine sB 1 [(15, .int .i64 (i : Int))] hF (by kernel_rfl) fun a hF => ?_
                refine wl (eP 16 (v0 := .int .i64 (IntKind.i64.wrap ((i : Int) + 1))) (v := .int .i64 ((i : Int) + 1)) hF (by kernel_rfl) (fun _ => by kernel_rfl) (wi (by omega)) fun a hF => ?_)
                refine sB 1 [(6, .int .i64 ((i : Int) + 1))] hF (by kernel_rfl) fun a hF => ?_
                refine wpList_nil ?_
                refine hK5 _ _ ⟨(i + 1, ly), ⟨((((((Fr.nil hF).c hF (i := 4) rfl rfl).c hF (i := 1) rfl rfl).c hF (i := 0) rfl rfl).c hF (i := 6) rfl (vi (show ((i : Int) + 1 : Int) = ((i + 1) : Int) from by omega))).c hF (i := 5) rfl rfl), (hM.sub (Sub.nil.c (k := 1) rfl rfl)), (show ((i + 1) : Int) ≤ (l.length : Int) from by omega), (show ly = rcl (clF (dAll r l (i + 1))) from by exact clK_last (k := k) (by omega) (by omega) (by assumption))⟩, (show l.length - (i + 1) < l.length - i from by omega)⟩
    · skip
      replace hF := hF.c hF (i := 14) (v := .bool false) rfl (bF hz3)
      refine cF hF (by kernel_rfl) (by kernel_rfl) ?_
      refine wp_exit ?_
      refine hK3 _ _ ?_
      refine wp_seq_k fun K36 hK36 => ?_
      refine wp_region_lit ?_
      refine sB 2 [(85, .int .i64 lx), (4, .int .i64 lx)] hF (by kernel_rfl) fun a hF => ?_
      refine wpList_nil ?_
      refine hK36 _ _ ?_
      refine wp_ret ?_
      refine hR0 _ _ ?_
      refine ret_of hF hM (.tmp rfl (.nil)) ?_
      exact ⟨ret_int (by rw [show l.length = i from by omega]; assumption), hM.bel⟩

theorem rDelay_w (r t : Int) (A : Option Addr) (l : List (Int × Int)) (c : Nat) (w0 : World) (hA : Ro w0 A (flat2 l)) :
    Calls Try.prog 21 #[.slice A l.length c, .agg #[.int .i64 r, .int .i64 t]] w0 (Ret w0 (.tuple #[.int .i64 (dlV r t l), .int .i64 (dlE r t l)])) := by
  refine enterK 40 Try.func21 rfl rfl rfl ?_
  intro a hF Q0 hR0 hN0
  have hM := Mem.start w0
  replace hM := hM.addOld 1 hA (Nat.le_refl _)
  refine wp_seq_k fun K1 hK1 => ?_
  refine wp_region_lit ?_
  refine wl (eN 3 2 (t := 23) (fun b => .pointer (some ⟨b, 0, none⟩)) #[.int .i64 r, .int .i64 t] hF hM (by kernel_rfl) (fun _ => by kernel_rfl) fun bb1 a w hF hM => ?_)
  refine sB 2 [(4, .int .i64 0), (5, .int .i64 0)] hF (by kernel_rfl) fun a hF => ?_
  refine wpList_nil ?_
  refine hK1 _ _ ?_
  refine wp_seq_k fun K2 hK2 => ?_
  refine wp_seq_k fun K3 hK3 => ?_
  refine wp_region_lit ?_
  refine sB 3 [(7, .slice A l.length c), (8, .int .i64 (l.length : Int)), (9, .bool (decide ((l.length : Int) = 0)))] hF (by kernel_rfl) fun a hF => ?_
  refine wpList_nil ?_
  refine hK3 _ _ ?_
  by_cases hz1 : (l.length : Int) = 0
  · skip
    replace hF := hF.c hF (i := 9) (v := .bool true) rfl (bT hz1)
    refine cT hF (by kernel_rfl) (by kernel_rfl) ?_
    refine wp_seq_k fun K4 hK4 => ?_
    refine wp_region_lit ?_
    refine sB 2 [(4, .int .i64 0), (5, .int .i64 2)] hF (by kernel_rfl) fun a hF => ?_
    refine wpList_nil ?_
    refine hK4 _ _ ?_
    refine wp_ret ?_
    refine hR0 _ _ ?_
    refine ret_of hF hM (.tmp rfl (.tmp rfl (.nil))) ?_
    have hd := dl_2 (r := r) (t := t) (l := l) (by omega)
    exact ⟨ret_eq (by rw [hd.1, hd.2]; rfl), hM.bel⟩
  · skip
    replace hF := hF.c hF (i := 9) (v := .bool false) rfl (bF hz1)
    refine cF hF (by kernel_rfl) (by kernel_rfl) ?_
    refine wp_skip ?_
    refine hK2 _ _ ?_
    refine wp_seq_k fun K5 hK5 => ?_
    refine wp_seq_k fun K6 hK6 => ?_
    refine wp_region_lit ?_
    refine sB 3 [(10, .slice A l.length c), (11, .int .i64 (l.length : Int)), (12, .bool (decide (12 < (l.length : Int))))] hF (by kernel_rfl) fun a hF => ?_
    refine wpList_nil ?_
    refine hK6 _ _ ?_
    by_cases hz2 : 12 < (l.length : Int)
    · skip
      replace hF := hF.c hF (i := 12) (v := .bool true) rfl (bT hz2)
      refine cT hF (by kernel_rfl) (by kernel_rfl) ?_
      refine wp_seq_k fun K7 hK7 => ?_
      refine wp_region_lit ?_
      refine sB 2 [(4, .int .i64 0), (5, .int .i64 3)] hF (by kernel_rfl) fun a hF => ?_
      refine wpList_nil ?_
      refine hK7 _ _ ?_
      refine wp_ret ?_
      refine hR0 _ _ ?_
      refine ret_of hF hM (.tmp rfl (.tmp rfl (.nil))) ?_
      have hd := dl_3 (r := r) (t := t) (l := l) (by omega)
      exact ⟨ret_eq (by rw [hd.1, hd.2]; rfl), hM.bel⟩
    · skip
      replace hF := hF.c hF (i := 12) (v := .bool false) rfl (bF hz2)
      refine cF hF (by kernel_rfl) (by kernel_rfl) ?_
      refine wp_skip ?_
      refine hK5 _ _ ?_
      refine wp_seq_k fun K8 hK8 => ?_
      refine wp_seq_k fun K9 hK9 => ?_
      refine wp_region_lit ?_
      refine sB 1 [(6, .int .i64 0)] hF (by kernel_rfl) fun a hF => ?_
      refine wpList_nil ?_
      refine hK9 _ _ ?_
      refine wp_block ?_
      refine wp_loop_k (G := Nat) (fun gg a w => Fr 40 [(6, some (.int .i64 (gg : Int))), (0, some (.slice A l.length c)), (3, some (.pointer (some ⟨bb1, 0, none⟩)))] a ∧ Mem w0.heap.size w0 [(1, some (.ro A (flat2 l))), (2, some (.row bb1 23 #[.int .i64 r, .int .i64 t]))] w ∧ ((gg : Int) ≤ (l.length : Int)) ∧ (∀ j, j < gg → bkE (pr l j).1 (pr l j).2 = 0)) (fun gg => l.length - gg) (0) ?_ ?_
      · refine ⟨((((Fr.nil hF).c hF (i := 3) rfl rfl).c hF (i := 0) rfl rfl).c hF (i := 6) rfl (vi (show (0 : Int) = (0 : Int) from by omega))), (hM.sub ((Sub.nil.c (k := 2) rfl rfl).c (k := 1) rfl rfl)), (show (0 : Int) ≤ (l.length : Int) from by omega), (show ∀ j, j < 0 → bkE (pr l j).1 (pr l j).2 = 0 from by exact fun j hj => by omega)⟩
      · intro gg a w hI
        intro K10 hK10
        obtain ⟨k, rfl⟩ : ∃ x, x = gg := ⟨_, rfl⟩
        try dsimp only at hI hK10
        obtain ⟨hF, hM, hz3, hz4⟩ := hI
        refine wp_seq_k fun K11 hK11 => ?_
        refine wp_seq_k fun K12 hK12 => ?_
        refine wp_region_lit ?_
        refine sB 4 [(13, .int .i64 (k : Int)), (14, .slice A l.length c), (15, .int .i64 (l.length : Int)), (16, .bool (decide ((k : Int) < (l.length : Int))))] hF (by kernel_rfl) fun a hF => ?_
        refine wpList_nil ?_
        refine hK12 _ _ ?_
        by_cases hz5 : (k : Int) < (l.length : Int)
        · skip
          replace hF := hF.c hF (i := 16) (v := .bool true) rfl (bT hz5)
          refine cT hF (by kernel_rfl) (by kernel_rfl) ?_
          refine wp_skip ?_
          refine hK11 _ _ ?_
          refine wp_seq_k fun K13 hK13 => ?_
          refine wp_block ?_
          refine wp_seq_k fun K14 hK14 => ?_
          by_cases hz6 : bkE (pr l k).1 (pr l k).2 = 0
          · skip
            have hz7 := bkE_ok hz6
            refine wp_region_lit ?_
            refine sB 2 [(19, .slice A l.length c), (20, .int .i64 (k : Int))] hF (by kernel_rfl) fun a hF => ?_
            refine wl (eM 21 (v := .pointer (some (ea A (k * 2)))) hF hM (by kernel_rfl) (yld_ix (kd := .i64) (e := 39) (len := l.length) (cap := c) (i := (k : Int)) (size := 2) (A := A) hF rfl (by kernel_rfl) (by kernel_rfl) (by kernel_rfl) (by kernel_rfl) (by kernel_rfl) (roK 1 rfl) (by omega) (by omega) (by rw [flat2_length]; omega)) fun a w hF hM => ?_)
            refine wl (eM 22 (v := .agg #[.int .i64 (pr l k).1, .int .i64 (pr l k).2]) hF hM (by kernel_rfl) (yld_roM (A := A) (j := k * 2) (us := [.int .i64 (pr l k).1, .int .i64 (pr l k).2]) hF rfl (by kernel_rfl) (by kernel_rfl) (roK 1 rfl) (by kernel_rfl) rfl (pr_both (k := k) (by omega) (by omega))) fun a w hF hM => ?_)
            refine wl (eM 23 (v := .bool true) hF hM (by kernel_rfl) (yld_call (f := 43) (args := #[.agg #[.int .i64 (pr l k).1, .int .i64 (pr l k).2]]) hF (by kernel_rfl) (fun _ => by kernel_rfl) (fun w hM => right_yes (pr l k).1 (pr l k).2 w hz6)) fun a w hF hM => ?_)
            refine sB 1 [(24, .bool false)] hF (by kernel_rfl) fun a hF => ?_
            refine wpList_nil ?_
            refine hK14 _ _ ?_
            refine cF hF (by kernel_rfl) (by kernel_rfl) ?_
            refine wp_skip ?_
            refine hK13 _ _ ?_
            refine wp_region_lit ?_
            refine sB 1 [(17, .int .i64 (k : Int))] hF (by kernel_rfl) fun a hF => ?_
            refine wl (eP 18 (v0 := .int .i64 (IntKind.i64.wrap ((k : Int) + 1))) (v := .int .i64 ((k : Int) + 1)) hF (by kernel_rfl) (fun _ => by kernel_rfl) (wi (by omega)) fun a hF => ?_)
            refine sB 1 [(6, .int .i64 ((k : Int) + 1))] hF (by kernel_rfl) fun a hF => ?_
            refine wpList_nil ?_
            refine hK10 _ _ ⟨(k + 1), ⟨((((Fr.nil hF).c hF (i := 3) rfl rfl).c hF (i := 0) rfl rfl).c hF (i := 6) rfl (vi (show ((k : Int) + 1 : Int) = ((k + 1) : Int) from by omega))), (hM.sub ((Sub.nil.c (k := 2) rfl rfl).c (k := 1) rfl rfl)), (show ((k + 1) : Int) ≤ (l.length : Int) from by omega), (show ∀ j, j < (k + 1) → bkE (pr l j).1 (pr l j).2 = 0 from by exact bk_next (by assumption) (by assumption))⟩, (show l.length - (k + 1) < l.length - k from by omega)⟩
          · skip
            refine wp_region_lit ?_
            refine sB 2 [(19, .slice A l.length c), (20, .int .i64 (k : Int))] hF (by kernel_rfl) fun a hF => ?_
            refine wl (eM 21 (v := .pointer (some (ea A (k * 2)))) hF hM (by kernel_rfl) (yld_ix (kd := .i64) (e := 39) (len := l.length) (cap := c) (i := (k : Int)) (size := 2) (A := A) hF rfl (by kernel_rfl) (by kernel_rfl) (by kernel_rfl) (by kernel_rfl) (by kernel_rfl) (roK 1 rfl) (by omega) (by omega) (by rw [flat2_length]; omega)) fun a w hF hM => ?_)
            refine wl (eM 22 (v := .agg #[.int .i64 (pr l k).1, .int .i64 (pr l k).2]) hF hM (by kernel_rfl) (yld_roM (A := A) (j := k * 2) (us := [.int .i64 (pr l k).1, .int .i64 (pr l k).2]) hF rfl (by kernel_rfl) (by kernel_rfl) (roK 1 rfl) (by kernel_rfl) rfl (pr_both (k := k) (by omega) (by omega))) fun a w hF hM => ?_)
            refine wl (eM 23 (v := .bool false) hF hM (by kernel_rfl) (yld_call (f := 43) (args := #[.agg #[.int .i64 (pr l k).1, .int .i64 (pr l k).2]]) hF (by kernel_rfl) (fun _ => by kernel_rfl) (fun w hM => right_no (pr l k).1 (pr l k).2 w hz6)) fun a w hF hM => ?_)
            refine sB 1 [(24, .bool true)] hF (by kernel_rfl) fun a hF => ?_
            refine wpList_nil ?_
            refine hK14 _ _ ?_
            refine cT hF (by kernel_rfl) (by kernel_rfl) ?_
            refine wp_seq_k fun K15 hK15 => ?_
            refine wp_region_lit ?_
            refine sB 2 [(4, .int .i64 0), (5, .int .i64 130)] hF (by kernel_rfl) fun a hF => ?_
            refine wpList_nil ?_
            refine hK15 _ _ ?_
            refine wp_ret ?_
            refine hR0 _ _ ?_
            refine ret_of hF hM (.tmp rfl (.tmp rfl (.nil))) ?_
            have hd := dl_130 (r := r) (t := t) (l := l) (by omega) (by omega) (bkAll_no (k := k) (by omega) hz6)
            exact ⟨ret_eq (by rw [hd.1, hd.2]; rfl), hM.bel⟩
        · skip
          replace hF := hF.c hF (i := 16) (v := .bool false) rfl (bF hz5)
          refine cF hF (by kernel_rfl) (by kernel_rfl) ?_
          refine wp_exit ?_
          refine hK8 _ _ ?_
          refine wp_seq_k fun K16 hK16 => ?_
          refine wp_seq_k fun K17 hK17 => ?_
          by_cases hz8 : svE r t = 0
          · skip
            have hz9 := svE_ok hz8
            refine wp_region_lit ?_
            refine wl (eL 25 2 0 (v := .agg #[.int .i64 r, .int .i64 t]) hF hM (by kernel_rfl) rfl rfl (by kernel_rfl) (by kernel_rfl) fun a w hF hM => ?_)
            refine wl (eM 26 (v := .bool true) hF hM (by kernel_rfl) (yld_call (f := 37) (args := #[.agg #[.int .i64 r, .int .i64 t]]) hF (by kernel_rfl) (fun _ => by kernel_rfl) (fun w hM => right4_yes r t w hz8)) fun a w hF hM => ?_)
            refine sB 1 [(27, .bool false)] hF (by kernel_rfl) fun a hF => ?_
            refine wpList_nil ?_
            refine hK17 _ _ ?_
            refine cF hF (by kernel_rfl) (by kernel_rfl) ?_
            refine wp_skip ?_
            refine hK16 _ _ ?_
            refine wp_seq_k fun K18 hK18 => ?_
            refine wp_seq_k fun K19 hK19 => ?_
            cases hz10 : (clF (dAll r l l.length)).2
            · skip
              refine wp_region_lit ?_
              refine sB 2 [(28, .slice A l.length c), (29, .pointer (some ⟨bb1, 0, none⟩))] hF (by kernel_rfl) fun a hF => ?_
              refine wl (eL 30 2 0 (v := .int .i64 r) hF hM (by kernel_rfl) rfl rfl (by kernel_rfl) (by kernel_rfl) fun a w hF hM => ?_)
              refine wl (eM 31 (v := .bool false) hF hM (by kernel_rfl) (Yld.to (yld_call (f := 44) (args := #[.slice A l.length c, .int .i64 r]) hF (by kernel_rfl) (fun _ => by kernel_rfl) (fun w hM => rSlow_w r A l _ w (hM.ok 1 _ rfl) (by omega))) (congrArg Value.bool hz10)) fun a w hF hM => ?_)
              refine sB 1 [(32, .bool true)] hF (by kernel_rfl) fun a hF => ?_
              refine wpList_nil ?_
              refine hK19 _ _ ?_
              refine cT hF (by kernel_rfl) (by kernel_rfl) ?_
              refine wp_seq_k fun K20 hK20 => ?_
              refine wp_region_lit ?_
              refine sB 2 [(4, .int .i64 0), (5, .int .i64 141)] hF (by kernel_rfl) fun a hF => ?_
              refine wpList_nil ?_
              refine hK20 _ _ ?_
              refine wp_ret ?_
              refine hR0 _ _ ?_
              refine ret_of hF hM (.tmp rfl (.tmp rfl (.nil))) ?_
              have hd := dl_141 (r := r) (t := t) (l := l) (by omega) (by omega) (bkAll_k (k := k) (by assumption) (by omega)) hz8 (by rw [hz10]; decide)
              exact ⟨ret_eq (by rw [hd.1, hd.2]; rfl), hM.bel⟩
            · skip
              refine wp_region_lit ?_
              refine sB 2 [(28, .slice A l.length c), (29, .pointer (some ⟨bb1, 0, none⟩))] hF (by kernel_rfl) fun a hF => ?_
              refine wl (eL 30 2 0 (v := .int .i64 r) hF hM (by kernel_rfl) rfl rfl (by kernel_rfl) (by kernel_rfl) fun a w hF hM => ?_)
              refine wl (eM 31 (v := .bool true) hF hM (by kernel_rfl) (Yld.to (yld_call (f := 44) (args := #[.slice A l.length c, .int .i64 r]) hF (by kernel_rfl) (fun _ => by kernel_rfl) (fun w hM => rSlow_w r A l _ w (hM.ok 1 _ rfl) (by omega))) (congrArg Value.bool hz10)) fun a w hF hM => ?_)
              refine sB 1 [(32, .bool false)] hF (by kernel_rfl) fun a hF => ?_
              refine wpList_nil ?_
              refine hK19 _ _ ?_
              refine cF hF (by kernel_rfl) (by kernel_rfl) ?_
              refine wp_skip ?_
              refine hK18 _ _ ?_
              refine wp_seq_k fun K21 hK21 => ?_
              refine rQ hM (by kernel_rfl) (by kernel_rfl) ?_
              refine eQ 33 (v0 := .pointer (some ⟨bb1, 1, none⟩)) (v := .pointer (some ⟨bb1, 1, none⟩)) hF (by kernel_rfl) (fun _ => by kernel_rfl) rfl fun a hF => ?_
              refine eQL 34 2 1 (v := .int .i64 t) hF (by kernel_rfl) rfl rfl (by kernel_rfl) (by kernel_rfl) fun a hF => ?_
              refine eQ 35 (v0 := .slice A l.length c) (v := .slice A l.length c) hF (by kernel_rfl) (fun _ => by kernel_rfl) rfl fun a hF => ?_
              refine eQ 36 (v0 := .pointer (some ⟨bb1, 0, none⟩)) (v := .pointer (some ⟨bb1, 0, none⟩)) hF (by kernel_rfl) (fun _ => by kernel_rfl) rfl fun a hF => ?_
              refine eQL 37 2 0 (v := .int .i64 r) hF (by kernel_rfl) rfl rfl (by kernel_rfl) (by kernel_rfl) fun a hF => ?_
              refine eQ2 38 (v := .int .i64 (clF (dAll r l l.length)).1) hF (by kernel_rfl) (yld_call (f := 45) (args := #[.slice A l.length c, .int .i64 r]) hF (by kernel_rfl) (fun _ => by kernel_rfl) (fun w hM => by rw [← rcl_yes hz10]; exact rClear_w r A l _ w (hM.ok 1 _ rfl) (by omega) (by omega) (bkAll_k (k := k) (by assumption) (by omega)))) fun a hF => ?_
              have := cl_bd (r := r) (l := l) (by omega) (bkAll_k (k := k) (by assumption) (by omega))
              refine eQ 39 (v0 := .int .i64 (IntKind.i64.wrap (t + (clF (dAll r l l.length)).1))) (v := .int .i64 (t + (clF (dAll r l l.length)).1)) hF (by kernel_rfl) (fun _ => by kernel_rfl) (wi (by omega)) fun a hF => ?_
              refine eQ 4 (v0 := .int .i64 (t + (clF (dAll r l l.length)).1)) (v := .int .i64 (t + (clF (dAll r l l.length)).1)) hF (by kernel_rfl) (fun _ => by kernel_rfl) rfl fun a hF => ?_
              refine eQ 5 (v0 := .int .i64 0) (v := .int .i64 0) hF (by kernel_rfl) (fun _ => by kernel_rfl) rfl fun a hF => ?_
              refine wpQuiet_nil ?_
              intro w hM
              refine hK21 _ _ ?_
              refine wp_ret ?_
              refine hR0 _ _ ?_
              refine ret_of hF hM (.tmp rfl (.tmp rfl (.nil))) ?_
              have hd := dl_0 (r := r) (t := t) (l := l) (by omega) (by omega) (bkAll_k (k := k) (by assumption) (by omega)) hz8 hz10
              exact ⟨ret_eq (by rw [hd.1, hd.2]; rfl), hM.bel⟩
          · skip
            refine wp_region_lit ?_
            refine wl (eL 25 2 0 (v := .agg #[.int .i64 r, .int .i64 t]) hF hM (by kernel_rfl) rfl rfl (by kernel_rfl) (by kernel_rfl) fun a w hF hM => ?_)
            refine wl (eM 26 (v := .bool false) hF hM (by kernel_rfl) (yld_call (f := 37) (args := #[.agg #[.int .i64 r, .int .i64 t]]) hF (by kernel_rfl) (fun _ => by kernel_rfl) (fun w hM => right4_no r t w hz8)) fun a w hF hM => ?_)
            refine sB 1 [(27, .bool true)] hF (by kernel_rfl) fun a hF => ?_
            refine wpList_nil ?_
            refine hK17 _ _ ?_
            refine cT hF (by kernel_rfl) (by kernel_rfl) ?_
            refine wp_seq_k fun K22 hK22 => ?_
            refine wp_region_lit ?_
            refine sB 2 [(4, .int .i64 0), (5, .int .i64 140)] hF (by kernel_rfl) fun a hF => ?_
            refine wpList_nil ?_
            refine hK22 _ _ ?_
            refine wp_ret ?_
            refine hR0 _ _ ?_
            refine ret_of hF hM (.tmp rfl (.tmp rfl (.nil))) ?_
            have hd := dl_140 (r := r) (t := t) (l := l) (by omega) (by omega) (bkAll_k (k := k) (by assumption) (by omega)) hz8
            exact ⟨ret_eq (by rw [hd.1, hd.2]; rfl), hM.bel⟩

theorem rBacklog_w (b q r t : Int) (w0 : World) :
    Calls Try.prog 23 #[.agg #[.int .i64 b, .int .i64 q], .agg #[.int .i64 r, .int .i64 t]] w0 (Ret w0 (.tuple #[.int .i64 (blV b q r t), .int .i64 (csE b q r t)])) := by
  refine enterK 27 Try.func23 rfl rfl rfl ?_
  intro a hF Q0 hR0 hN0
  have hM := Mem.start w0
  refine wp_seq_k fun K1 hK1 => ?_
  refine wp_region_lit ?_
  refine wl (eN 2 1 (t := 39) (fun b => .pointer (some ⟨b, 0, none⟩)) #[.int .i64 b, .int .i64 q] hF hM (by kernel_rfl) (fun _ => by kernel_rfl) fun bb1 a w hF hM => ?_)
  refine wl (eN 3 2 (t := 23) (fun b => .pointer (some ⟨b, 0, none⟩)) #[.int .i64 r, .int .i64 t] hF hM (by kernel_rfl) (fun _ => by kernel_rfl) fun bb2 a w hF hM => ?_)
  refine sB 2 [(4, .int .i64 0), (5, .int .i64 0)] hF (by kernel_rfl) fun a hF => ?_
  refine wpList_nil ?_
  refine hK1 _ _ ?_
  refine wp_seq_k fun K2 hK2 => ?_
  by_cases hz1 : csE b q r t = 0
  · skip
    have hz2 := cs_bd hz1
    refine wp_region_lit ?_
    refine wl (eL 9 1 0 (v := .agg #[.int .i64 b, .int .i64 q]) hF hM (by kernel_rfl) rfl rfl (by kernel_rfl) (by kernel_rfl) fun a w hF hM => ?_)
    refine wl (eN 10 4 (t := 39) (fun b => .slice (some ⟨b, 0, none⟩) 1 1) #[.int .i64 b, .int .i64 q] hF hM (by kernel_rfl) (fun _ => by kernel_rfl) fun bb4 a w hF hM => ?_)
    refine wl (eL 11 2 0 (v := .agg #[.int .i64 r, .int .i64 t]) hF hM (by kernel_rfl) rfl rfl (by kernel_rfl) (by kernel_rfl) fun a w hF hM => ?_)
    refine wl (eM 12 (v := .tuple #[.int .i64 (t + cq (b * 1048576) r), .int .i64 0]) hF hM (by kernel_rfl) (yld_call (f := 21) (args := #[.slice (some ⟨bb4, 0, none⟩) 1 1, .agg #[.int .i64 r, .int .i64 t]]) hF (by kernel_rfl) (fun _ => by kernel_rfl) (fun w hM => dl_to (dl_one hz1) (rDelay_w r t (some ⟨bb4, 0, none⟩) [(b, q)] _ w (hM.roRow (k := 4) rfl)))) fun a w hF hM => ?_)
    have := cq_in (n := b * 1048576) (d := r) (B := 1099511627776) (by omega) (by omega) (by omega)
    refine sB 5 [(8, .tuple #[.int .i64 (t + cq (b * 1048576) r), .int .i64 0]), (13, .int .i64 (t + cq (b * 1048576) r)), (14, .int .i64 0), (6, .int .i64 (t + cq (b * 1048576) r)), (7, .int .i64 0)] hF (by kernel_rfl) fun a hF => ?_
    refine wpList_nil ?_
    refine hK2 _ _ ?_
    refine wp_seq_k fun K3 hK3 => ?_
    refine wp_seq_k fun K4 hK4 => ?_
    refine wp_region_lit ?_
    refine sB 1 [(15, .int .i64 0)] hF (by kernel_rfl) fun a hF => ?_
    refine wl (eP 16 (v0 := .bool (!decide (0 = 0))) (v := .bool false) hF (by kernel_rfl) (fun _ => by kernel_rfl) (nT (by omega)) fun a hF => ?_)
    refine wpList_nil ?_
    refine hK4 _ _ ?_
    refine cF hF (by kernel_rfl) (by kernel_rfl) ?_
    refine wp_skip ?_
    refine hK3 _ _ ?_
    refine wp_seq_k fun K5 hK5 => ?_
    refine rQ hM (by kernel_rfl) (by kernel_rfl) ?_
    refine eQ 18 (v0 := .pointer (some ⟨bb1, 0, none⟩)) (v := .pointer (some ⟨bb1, 0, none⟩)) hF (by kernel_rfl) (fun _ => by kernel_rfl) rfl fun a hF => ?_
    refine eQL 19 1 0 (v := .int .i64 b) hF (by kernel_rfl) rfl rfl (by kernel_rfl) (by kernel_rfl) fun a hF => ?_
    refine eQ 20 (v0 := .pointer (some ⟨bb1, 1, none⟩)) (v := .pointer (some ⟨bb1, 1, none⟩)) hF (by kernel_rfl) (fun _ => by kernel_rfl) rfl fun a hF => ?_
    refine eQL 21 1 1 (v := .int .i64 q) hF (by kernel_rfl) rfl rfl (by kernel_rfl) (by kernel_rfl) fun a hF => ?_
    refine eQ 22 (v0 := .pointer (some ⟨bb2, 1, none⟩)) (v := .pointer (some ⟨bb2, 1, none⟩)) hF (by kernel_rfl) (fun _ => by kernel_rfl) rfl fun a hF => ?_
    refine eQL 23 2 1 (v := .int .i64 t) hF (by kernel_rfl) rfl rfl (by kernel_rfl) (by kernel_rfl) fun a hF => ?_
    have hz3 : 0 ≤ q * t ∧ q * t ≤ 562949953421312 := mul_bd (1) (2097152) (0) (268435456) (by omega) (by omega) (by omega) (by omega) (by decide)
    refine eQ 24 (v0 := .int .i64 (IntKind.i64.wrap (q * t))) (v := .int .i64 (q * t)) hF (by kernel_rfl) (fun _ => by kernel_rfl) (wi (by omega)) fun a hF => ?_
    refine eQ2 25 (v := .int .i64 (cq (q * t) 1048576)) hF (by kernel_rfl) (yld_call (f := 48) (args := #[.int .i64 (q * t), .int .i64 1048576]) hF (by kernel_rfl) (fun _ => by kernel_rfl) (fun w hM => rCeil4_w (q * t) 1048576 w (by omega))) fun a hF => ?_
    have := cq_in (n := q * t) (d := 1048576) (B := 536870912) (by omega) (by omega) (by omega)
    refine eQ 26 (v0 := .int .i64 (IntKind.i64.wrap (b + cq (q * t) 1048576))) (v := .int .i64 (b + cq (q * t) 1048576)) hF (by kernel_rfl) (fun _ => by kernel_rfl) (wi (by omega)) fun a hF => ?_
    refine eQ 4 (v0 := .int .i64 (b + cq (q * t) 1048576)) (v := .int .i64 (b + cq (q * t) 1048576)) hF (by kernel_rfl) (fun _ => by kernel_rfl) rfl fun a hF => ?_
    refine eQ 5 (v0 := .int .i64 0) (v := .int .i64 0) hF (by kernel_rfl) (fun _ => by kernel_rfl) rfl fun a hF => ?_
    refine wpQuiet_nil ?_
    intro w hM
    refine hK5 _ _ ?_
    refine wp_ret ?_
    refine hR0 _ _ ?_
    refine ret_of hF hM (.tmp rfl (.tmp rfl (.nil))) ?_
    exact ⟨ret_eq (by rw [bl_yes hz1, hz1]; rfl), hM.bel⟩
  · skip
    refine wp_region_lit ?_
    refine wl (eL 9 1 0 (v := .agg #[.int .i64 b, .int .i64 q]) hF hM (by kernel_rfl) rfl rfl (by kernel_rfl) (by kernel_rfl) fun a w hF hM => ?_)
    refine wl (eN 10 5 (t := 39) (fun b => .slice (some ⟨b, 0, none⟩) 1 1) #[.int .i64 b, .int .i64 q] hF hM (by kernel_rfl) (fun _ => by kernel_rfl) fun bb5 a w hF hM => ?_)
    refine wl (eL 11 2 0 (v := .agg #[.int .i64 r, .int .i64 t]) hF hM (by kernel_rfl) rfl rfl (by kernel_rfl) (by kernel_rfl) fun a w hF hM => ?_)
    refine wl (eM 12 (v := .tuple #[.int .i64 0, .int .i64 (csE b q r t)]) hF hM (by kernel_rfl) (yld_call (f := 21) (args := #[.slice (some ⟨bb5, 0, none⟩) 1 1, .agg #[.int .i64 r, .int .i64 t]]) hF (by kernel_rfl) (fun _ => by kernel_rfl) (fun w hM => tup_to (dl_bad hz1).2 (dl_bad hz1).1 (rDelay_w r t (some ⟨bb5, 0, none⟩) [(b, q)] _ w (hM.roRow (k := 5) rfl)))) fun a w hF hM => ?_)
    refine sB 5 [(8, .tuple #[.int .i64 0, .int .i64 (csE b q r t)]), (13, .int .i64 0), (14, .int .i64 (csE b q r t)), (6, .int .i64 0), (7, .int .i64 (csE b q r t))] hF (by kernel_rfl) fun a hF => ?_
    refine wpList_nil ?_
    refine hK2 _ _ ?_
    refine wp_seq_k fun K6 hK6 => ?_
    refine wp_seq_k fun K7 hK7 => ?_
    refine wp_region_lit ?_
    refine sB 1 [(15, .int .i64 (csE b q r t))] hF (by kernel_rfl) fun a hF => ?_
    refine wl (eP 16 (v0 := .bool (!decide (csE b q r t = 0))) (v := .bool true) hF (by kernel_rfl) (fun _ => by kernel_rfl) (nF hz1) fun a hF => ?_)
    refine wpList_nil ?_
    refine hK7 _ _ ?_
    refine cT hF (by kernel_rfl) (by kernel_rfl) ?_
    refine wp_seq_k fun K8 hK8 => ?_
    refine wp_region_lit ?_
    refine sB 3 [(17, .int .i64 (csE b q r t)), (4, .int .i64 0), (5, .int .i64 (csE b q r t))] hF (by kernel_rfl) fun a hF => ?_
    refine wpList_nil ?_
    refine hK8 _ _ ?_
    refine wp_ret ?_
    refine hR0 _ _ ?_
    refine ret_of hF hM (.tmp rfl (.tmp rfl (.nil))) ?_
    exact ⟨ret_eq (by rw [bl_no hz1]; rfl), hM.bel⟩

theorem rOutput_w (b q r t : Int) (w0 : World) :
    Calls Try.prog 25 #[.agg #[.int .i64 b, .int .i64 q], .agg #[.int .i64 r, .int .i64 t]] w0 (Ret w0 (.tuple #[.agg #[.int .i64 (ouB b q r t), .int .i64 (ouR b q r t)], .int .i64 (ouE b q r t)])) := by
  refine enterK 36 Try.func25 rfl rfl rfl ?_
  intro a hF Q0 hR0 hN0
  have hM := Mem.start w0
  refine wp_seq_k fun K1 hK1 => ?_
  refine wp_region_lit ?_
  refine wl (eN 2 1 (t := 39) (fun b => .pointer (some ⟨b, 0, none⟩)) #[.int .i64 b, .int .i64 q] hF hM (by kernel_rfl) (fun _ => by kernel_rfl) fun bb1 a w hF hM => ?_)
  refine wl (eN 3 2 (t := 23) (fun b => .pointer (some ⟨b, 0, none⟩)) #[.int .i64 r, .int .i64 t] hF hM (by kernel_rfl) (fun _ => by kernel_rfl) fun bb2 a w hF hM => ?_)
  refine wl (eN 4 3 (t := 39) (fun b => .pointer (some ⟨b, 0, none⟩)) #[.int .i64 0, .int .i64 0] hF hM (by kernel_rfl) (fun _ => by kernel_rfl) fun bb3 a w hF hM => ?_)
  refine sB 1 [(5, .int .i64 0)] hF (by kernel_rfl) fun a hF => ?_
  refine wpList_nil ?_
  refine hK1 _ _ ?_
  refine wp_seq_k fun K2 hK2 => ?_
  by_cases hz1 : csE b q r t = 0
  · skip
    have hz2 := cs_bd hz1
    refine wp_region_lit ?_
    refine wl (eL 10 1 0 (v := .agg #[.int .i64 b, .int .i64 q]) hF hM (by kernel_rfl) rfl rfl (by kernel_rfl) (by kernel_rfl) fun a w hF hM => ?_)
    refine wl (eN 11 5 (t := 39) (fun b => .slice (some ⟨b, 0, none⟩) 1 1) #[.int .i64 b, .int .i64 q] hF hM (by kernel_rfl) (fun _ => by kernel_rfl) fun bb5 a w hF hM => ?_)
    refine wl (eL 12 2 0 (v := .agg #[.int .i64 r, .int .i64 t]) hF hM (by kernel_rfl) rfl rfl (by kernel_rfl) (by kernel_rfl) fun a w hF hM => ?_)
    refine wl (eM 13 (v := .tuple #[.int .i64 (t + cq (b * 1048576) r), .int .i64 0]) hF hM (by kernel_rfl) (yld_call (f := 21) (args := #[.slice (some ⟨bb5, 0, none⟩) 1 1, .agg #[.int .i64 r, .int .i64 t]]) hF (by kernel_rfl) (fun _ => by kernel_rfl) (fun w hM => dl_to (dl_one hz1) (rDelay_w r t (some ⟨bb5, 0, none⟩) [(b, q)] _ w (hM.roRow (k := 5) rfl)))) fun a w hF hM => ?_)
    have := cq_in (n := b * 1048576) (d := r) (B := 1099511627776) (by omega) (by omega) (by omega)
    refine sB 5 [(9, .tuple #[.int .i64 (t + cq (b * 1048576) r), .int .i64 0]), (14, .int .i64 (t + cq (b * 1048576) r)), (15, .int .i64 0), (6, .int .i64 (t + cq (b * 1048576) r)), (7, .int .i64 0)] hF (by kernel_rfl) fun a hF => ?_
    refine wpList_nil ?_
    refine hK2 _ _ ?_
    refine wp_seq_k fun K3 hK3 => ?_
    refine wp_seq_k fun K4 hK4 => ?_
    refine wp_region_lit ?_
    refine sB 1 [(16, .int .i64 0)] hF (by kernel_rfl) fun a hF => ?_
    refine wl (eP 17 (v0 := .bool (!decide (0 = 0))) (v := .bool false) hF (by kernel_rfl) (fun _ => by kernel_rfl) (nT (by omega)) fun a hF => ?_)
    refine wpList_nil ?_
    refine hK4 _ _ ?_
    refine cF hF (by kernel_rfl) (by kernel_rfl) ?_
    refine wp_skip ?_
    refine hK3 _ _ ?_
    refine wp_seq_k fun K5 hK5 => ?_
    have hz3 : 0 ≤ q * (t + cq (b * 1048576) r) ∧ q * (t + cq (b * 1048576) r) ≤ 2306405959167115264 := mul_bd (1) (2097152) (0) (1099780063232) (by omega) (by omega) (by omega) (by omega) (by decide)
    have := cq_in (n := q * (t + cq (b * 1048576) r)) (d := 1048576) (B := 2199560126464) (by omega) (by omega) (by omega)
    refine rF (by kernel_rfl) (by kernel_rfl) (fun S a w => ∃ bb6 : Nat, Fr 36 [(2, some (.pointer (some ⟨bb1, 0, none⟩))), (4, some (.pointer (some ⟨bb3, 0, none⟩))), (5, some (.int .i64 0)), (6, some (.int .i64 (t + cq (b * 1048576) r))), (8, (cond (S.getD 11 false) (some (.pointer (some ⟨bb6, 0, none⟩))) none)), (20, (cond (S.getD 0 false) (some (.pointer (some ⟨bb1, 0, none⟩))) none)), (21, (cond (S.getD 1 false) (some (.int .i64 b)) none)), (22, (cond (S.getD 2 false) (some (.pointer (some ⟨bb1, 1, none⟩))) none)), (23, (cond (S.getD 3 false) (some (.int .i64 q)) none)), (24, (cond (S.getD 4 false) (some (.int .i64 (t + cq (b * 1048576) r))) none)), (25, (cond (S.getD 5 false) (some (.int .i64 (q * (t + cq (b * 1048576) r)))) none)), (26, (cond (S.getD 6 false) (some (.int .i64 (cq (q * (t + cq (b * 1048576) r)) 1048576))) none)), (27, (cond (S.getD 7 false) (some (.int .i64 (b + cq (q * (t + cq (b * 1048576) r)) 1048576))) none)), (28, (cond (S.getD 8 false) (some (.pointer (some ⟨bb1, 1, none⟩))) none)), (29, (cond (S.getD 9 false) (some (.int .i64 q)) none)), (30, (cond (S.getD 10 false) (some (.agg #[.int .i64 (b + cq (q * (t + cq (b * 1048576) r)) 1048576), .int .i64 q])) none))] a ∧ Mem w0.heap.size w0 [(1, some (.row bb1 39 #[.int .i64 b, .int .i64 q])), (3, some (.row bb3 39 #[.int .i64 0, .int .i64 0])), (6, (cond (S.getD 12 false) (some (.row bb6 39 #[.int .i64 (b + cq (q * (t + cq (b * 1048576) r)) 1048576), .int .i64 q])) (cond (S.getD 11 false) (some (.row bb6 39 #[.int .i64 0, .int .i64 0])) none)))] w) ?_ ?_ ?_
    · exact ⟨0, (((((((((((((((((Fr.nil hF).co hF (i := 30) (by kernel_rfl)).co hF (i := 29) (by kernel_rfl)).co hF (i := 28) (by kernel_rfl)).co hF (i := 27) (by kernel_rfl)).co hF (i := 26) (by kernel_rfl)).co hF (i := 25) (by kernel_rfl)).co hF (i := 24) (by kernel_rfl)).co hF (i := 23) (by kernel_rfl)).co hF (i := 22) (by kernel_rfl)).co hF (i := 21) (by kernel_rfl)).co hF (i := 20) (by kernel_rfl)).co hF (i := 8) (by kernel_rfl)).co hF (i := 6) (by kernel_rfl)).co hF (i := 5) (by kernel_rfl)).co hF (i := 4) (by kernel_rfl)).co hF (i := 2) (by kernel_rfl)), hM.drew.sub (((Sub.nil.co (k := 6) (by kernel_rfl)).co (k := 3) (by kernel_rfl)).co (k := 1) (by kernel_rfl))⟩
    · refine stC ?_ (stC ?_ (stC ?_ (stC ?_ (stC ?_ (stC ?_ (stC ?_ (stC ?_ (stC ?_ (stC ?_ (stC ?_ (stC ?_ (stC ?_ (trivial)))))))))))))
      · intro s0 s1 s2 s3 s4 s5 s6 s7 s8 s9 s10 s11 s12 hc hi hp a w hS
        obtain rfl : s0 = false := hi
        obtain ⟨bb6, hF, hM⟩ := hS
        refine eP 20 (v0 := .pointer (some ⟨bb1, 0, none⟩)) (v := .pointer (some ⟨bb1, 0, none⟩)) hF (by kernel_rfl) (fun _ => by kernel_rfl) rfl fun a hF => ?_
        exact ⟨bb6, ((hF.repl 5 (by kernel_rfl)).cast (by kernel_rfl)), (hM.cast (by kernel_rfl))⟩
      · intro s0 s1 s2 s3 s4 s5 s6 s7 s8 s9 s10 s11 s12 hc hi hp a w hS
        obtain rfl : s1 = false := hi
        obtain rfl : s0 = true := hp 0 (by kernel_rfl)
        obtain ⟨bb6, hF, hM⟩ := hS
        refine eL 21 1 0 (v := .int .i64 b) hF hM (by kernel_rfl) rfl rfl (by kernel_rfl) (by kernel_rfl) fun a w hF hM => ?_
        exact ⟨bb6, ((hF.repl 6 (by kernel_rfl)).cast (by kernel_rfl)), (hM.cast (by kernel_rfl))⟩
      · intro s0 s1 s2 s3 s4 s5 s6 s7 s8 s9 s10 s11 s12 hc hi hp a w hS
        obtain rfl : s2 = false := hi
        obtain ⟨bb6, hF, hM⟩ := hS
        refine eP 22 (v0 := .pointer (some ⟨bb1, 1, none⟩)) (v := .pointer (some ⟨bb1, 1, none⟩)) hF (by kernel_rfl) (fun _ => by kernel_rfl) rfl fun a hF => ?_
        exact ⟨bb6, ((hF.repl 7 (by kernel_rfl)).cast (by kernel_rfl)), (hM.cast (by kernel_rfl))⟩
      · intro s0 s1 s2 s3 s4 s5 s6 s7 s8 s9 s10 s11 s12 hc hi hp a w hS
        obtain rfl : s3 = false := hi
        obtain rfl : s2 = true := hp 2 (by kernel_rfl)
        obtain ⟨bb6, hF, hM⟩ := hS
        refine eL 23 1 1 (v := .int .i64 q) hF hM (by kernel_rfl) rfl rfl (by kernel_rfl) (by kernel_rfl) fun a w hF hM => ?_
        exact ⟨bb6, ((hF.repl 8 (by kernel_rfl)).cast (by kernel_rfl)), (hM.cast (by kernel_rfl))⟩
      · intro s0 s1 s2 s3 s4 s5 s6 s7 s8 s9 s10 s11 s12 hc hi hp a w hS
        obtain rfl : s4 = false := hi
        obtain ⟨bb6, hF, hM⟩ := hS
        refine eP 24 (v0 := .int .i64 (t + cq (b * 1048576) r)) (v := .int .i64 (t + cq (b * 1048576) r)) hF (by kernel_rfl) (fun _ => by kernel_rfl) rfl fun a hF => ?_
        exact ⟨bb6, ((hF.repl 9 (by kernel_rfl)).cast (by kernel_rfl)), (hM.cast (by kernel_rfl))⟩
      · intro s0 s1 s2 s3 s4 s5 s6 s7 s8 s9 s10 s11 s12 hc hi hp a w hS
        obtain rfl : s5 = false := hi
        obtain rfl : s4 = true := hp 4 (by kernel_rfl)
        obtain rfl : s3 = true := hp 3 (by kernel_rfl)
        obtain ⟨bb6, hF, hM⟩ := hS
        refine eP 25 (v0 := .int .i64 (IntKind.i64.wrap (q * (t + cq (b * 1048576) r)))) (v := .int .i64 (q * (t + cq (b * 1048576) r))) hF (by kernel_rfl) (fun _ => by kernel_rfl) (wi (by omega)) fun a hF => ?_
        exact ⟨bb6, ((hF.repl 10 (by kernel_rfl)).cast (by kernel_rfl)), (hM.cast (by kernel_rfl))⟩
      · intro s0 s1 s2 s3 s4 s5 s6 s7 s8 s9 s10 s11 s12 hc hi hp a w hS
        obtain rfl : s6 = false := hi
        obtain rfl : s5 = true := hp 5 (by kernel_rfl)
        obtain ⟨bb6, hF, hM⟩ := hS
        refine eM 26 (v := .int .i64 (cq (q * (t + cq (b * 1048576) r)) 1048576)) hF hM (by kernel_rfl) (yld_call (f := 48) (args := #[.int .i64 (q * (t + cq (b * 1048576) r)), .int .i64 1048576]) hF (by kernel_rfl) (fun _ => by kernel_rfl) (fun w hM => rCeil4_w (q * (t + cq (b * 1048576) r)) 1048576 w (by omega))) fun a w hF hM => ?_
        exact ⟨bb6, ((hF.repl 11 (by kernel_rfl)).cast (by kernel_rfl)), (hM.cast (by kernel_rfl))⟩
      · intro s0 s1 s2 s3 s4 s5 s6 s7 s8 s9 s10 s11 s12 hc hi hp a w hS
        obtain rfl : s7 = false := hi
        obtain rfl : s6 = true := hp 6 (by kernel_rfl)
        obtain rfl : s1 = true := hp 1 (by kernel_rfl)
        obtain ⟨bb6, hF, hM⟩ := hS
        refine eP 27 (v0 := .int .i64 (IntKind.i64.wrap (b + cq (q * (t + cq (b * 1048576) r)) 1048576))) (v := .int .i64 (b + cq (q * (t + cq (b * 1048576) r)) 1048576)) hF (by kernel_rfl) (fun _ => by kernel_rfl) (wi (by omega)) fun a hF => ?_
        exact ⟨bb6, ((hF.repl 12 (by kernel_rfl)).cast (by kernel_rfl)), (hM.cast (by kernel_rfl))⟩
      · intro s0 s1 s2 s3 s4 s5 s6 s7 s8 s9 s10 s11 s12 hc hi hp a w hS
        obtain rfl : s8 = false := hi
        obtain ⟨bb6, hF, hM⟩ := hS
        refine eP 28 (v0 := .pointer (some ⟨bb1, 1, none⟩)) (v := .pointer (some ⟨bb1, 1, none⟩)) hF (by kernel_rfl) (fun _ => by kernel_rfl) rfl fun a hF => ?_
        exact ⟨bb6, ((hF.repl 13 (by kernel_rfl)).cast (by kernel_rfl)), (hM.cast (by kernel_rfl))⟩
      · intro s0 s1 s2 s3 s4 s5 s6 s7 s8 s9 s10 s11 s12 hc hi hp a w hS
        obtain rfl : s9 = false := hi
        obtain rfl : s8 = true := hp 8 (by kernel_rfl)
        obtain ⟨bb6, hF, hM⟩ := hS
        refine eL 29 1 1 (v := .int .i64 q) hF hM (by kernel_rfl) rfl rfl (by kernel_rfl) (by kernel_rfl) fun a w hF hM => ?_
        exact ⟨bb6, ((hF.repl 14 (by kernel_rfl)).cast (by kernel_rfl)), (hM.cast (by kernel_rfl))⟩
      · intro s0 s1 s2 s3 s4 s5 s6 s7 s8 s9 s10 s11 s12 hc hi hp a w hS
        obtain rfl : s10 = false := hi
        obtain rfl : s9 = true := hp 9 (by kernel_rfl)
        obtain rfl : s7 = true := hp 7 (by kernel_rfl)
        obtain ⟨bb6, hF, hM⟩ := hS
        refine eP 30 (v0 := .agg #[.int .i64 (b + cq (q * (t + cq (b * 1048576) r)) 1048576), .int .i64 q]) (v := .agg #[.int .i64 (b + cq (q * (t + cq (b * 1048576) r)) 1048576), .int .i64 q]) hF (by kernel_rfl) (fun _ => by kernel_rfl) rfl fun a hF => ?_
        exact ⟨bb6, ((hF.repl 15 (by kernel_rfl)).cast (by kernel_rfl)), (hM.cast (by kernel_rfl))⟩
      · intro s0 s1 s2 s3 s4 s5 s6 s7 s8 s9 s10 s11 s12 hc hi hp a w hS
        obtain rfl : s11 = false := hi
        obtain rfl : s12 = false := hc.f 12 11 (by kernel_rfl) rfl
        obtain ⟨bb6, hF, hM⟩ := hS
        refine eN 8 6 (t := 39) (fun b => .pointer (some ⟨b, 0, none⟩)) #[.int .i64 0, .int .i64 0] hF hM (by kernel_rfl) (fun _ => by kernel_rfl) fun bb6 a w hF hM => ?_
        exact ⟨bb6, ((hF.repl 4 (by kernel_rfl)).cast (by kernel_rfl)), ((hM.repl 2 (by kernel_rfl)).cast (by kernel_rfl))⟩
      · intro s0 s1 s2 s3 s4 s5 s6 s7 s8 s9 s10 s11 s12 hc hi hp a w hS
        obtain rfl : s12 = false := hi
        obtain rfl : s11 = true := hp 11 (by kernel_rfl)
        obtain rfl : s10 = true := hp 10 (by kernel_rfl)
        obtain ⟨bb6, hF, hM⟩ := hS
        refine sStore (i := 6) (off := 0) (cs' := #[.int .i64 (b + cq (q * (t + cq (b * 1048576) r)) 1048576), .int .i64 q]) hF hM (by kernel_rfl) rfl rfl (by kernel_rfl) (by kernel_rfl) rfl (by kernel_rfl) fun w hM => ?_
        exact ⟨bb6, (hF.cast (by kernel_rfl)), ((hM.repl 2 (by kernel_rfl)).cast (by kernel_rfl))⟩
    · intro a w hS
      obtain ⟨bb6, hF, hM⟩ := hS
      replace hF : Fr 36 [(2, some (.pointer (some ⟨bb1, 0, none⟩))), (4, some (.pointer (some ⟨bb3, 0, none⟩))), (5, some (.int .i64 0)), (6, some (.int .i64 (t + cq (b * 1048576) r))), (8, some (.pointer (some ⟨bb6, 0, none⟩))), (20, some (.pointer (some ⟨bb1, 0, none⟩))), (21, some (.int .i64 b)), (22, some (.pointer (some ⟨bb1, 1, none⟩))), (23, some (.int .i64 q)), (24, some (.int .i64 (t + cq (b * 1048576) r))), (25, some (.int .i64 (q * (t + cq (b * 1048576) r)))), (26, some (.int .i64 (cq (q * (t + cq (b * 1048576) r)) 1048576))), (27, some (.int .i64 (b + cq (q * (t + cq (b * 1048576) r)) 1048576))), (28, some (.pointer (some ⟨bb1, 1, none⟩))), (29, some (.int .i64 q)), (30, some (.agg #[.int .i64 (b + cq (q * (t + cq (b * 1048576) r)) 1048576), .int .i64 q]))] a := hF.cast (by kernel_rfl)
      replace hM : Mem w0.heap.size w0 [(1, some (.row bb1 39 #[.int .i64 b, .int .i64 q])), (3, some (.row bb3 39 #[.int .i64 0, .int .i64 0])), (6, some (.row bb6 39 #[.int .i64 (b + cq (q * (t + cq (b * 1048576) r)) 1048576), .int .i64 q]))] w := hM.cast (by kernel_rfl)
      refine hK5 _ _ ?_
      refine wp_seq_k fun K6 hK6 => ?_
      refine wp_seq_k fun K7 hK7 => ?_
      by_cases hz4 : bkE (b + cq (q * (t + cq (b * 1048576) r)) 1048576) q = 0
      · skip
        have hz5 := bkE_ok hz4
        refine wp_region_lit ?_
        refine wl (eL 31 6 0 (v := .agg #[.int .i64 (b + cq (q * (t + cq (b * 1048576) r)) 1048576), .int .i64 q]) hF hM (by kernel_rfl) rfl rfl (by kernel_rfl) (by kernel_rfl) fun a w hF hM => ?_)
        refine wl (eM 32 (v := .bool true) hF hM (by kernel_rfl) (yld_call (f := 43) (args := #[.agg #[.int .i64 (b + cq (q * (t + cq (b * 1048576) r)) 1048576), .int .i64 q]]) hF (by kernel_rfl) (fun _ => by kernel_rfl) (fun w hM => right_yes (b + cq (q * (t + cq (b * 1048576) r)) 1048576) q w hz4)) fun a w hF hM => ?_)
        refine sB 1 [(33, .bool false)] hF (by kernel_rfl) fun a hF => ?_
        refine wpList_nil ?_
        refine hK7 _ _ ?_
        refine cF hF (by kernel_rfl) (by kernel_rfl) ?_
        refine wp_skip ?_
        refine hK6 _ _ ?_
        refine wp_seq_k fun K8 hK8 => ?_
        refine wp_region_lit ?_
        refine wl (eL 35 6 0 (v := .agg #[.int .i64 (b + cq (q * (t + cq (b * 1048576) r)) 1048576), .int .i64 q]) hF hM (by kernel_rfl) rfl rfl (by kernel_rfl) (by kernel_rfl) fun a w hF hM => ?_)
        refine wl (sStore (i := 3) (off := 0) (cs' := #[.int .i64 (b + cq (q * (t + cq (b * 1048576) r)) 1048576), .int .i64 q]) hF hM (by kernel_rfl) rfl rfl (by kernel_rfl) (by kernel_rfl) rfl (by kernel_rfl) fun w hM => ?_)
        refine sB 1 [(5, .int .i64 0)] hF (by kernel_rfl) fun a hF => ?_
        refine wpList_nil ?_
        refine hK8 _ _ ?_
        refine wp_ret ?_
        refine hR0 _ _ ?_
        refine ret_of hF hM (.cell (i := 3) rfl rfl (v := .agg #[.int .i64 (b + cq (q * (t + cq (b * 1048576) r)) 1048576), .int .i64 q]) (by kernel_rfl) (.tmp rfl (.nil))) ?_
        have hd := ou_0 hz1 (show bkE (ouN b q r t) q = 0 from hz4)
        exact ⟨ret_eq (by rw [hd.1, hd.2.1, hd.2.2]; rfl), hM.bel⟩
      · skip
        refine wp_region_lit ?_
        refine wl (eL 31 6 0 (v := .agg #[.int .i64 (b + cq (q * (t + cq (b * 1048576) r)) 1048576), .int .i64 q]) hF hM (by kernel_rfl) rfl rfl (by kernel_rfl) (by kernel_rfl) fun a w hF hM => ?_)
        refine wl (eM 32 (v := .bool false) hF hM (by kernel_rfl) (yld_call (f := 43) (args := #[.agg #[.int .i64 (b + cq (q * (t + cq (b * 1048576) r)) 1048576), .int .i64 q]]) hF (by kernel_rfl) (fun _ => by kernel_rfl) (fun w hM => right_no (b + cq (q * (t + cq (b * 1048576) r)) 1048576) q w hz4)) fun a w hF hM => ?_)
        refine sB 1 [(33, .bool true)] hF (by kernel_rfl) fun a hF => ?_
        refine wpList_nil ?_
        refine hK7 _ _ ?_
        refine cT hF (by kernel_rfl) (by kernel_rfl) ?_
        refine wp_seq_k fun K9 hK9 => ?_
        refine wp_region_lit ?_
        refine sB 1 [(34, .agg #[.int .i64 0, .int .i64 0])] hF (by kernel_rfl) fun a hF => ?_
        refine wl (sStore (i := 3) (off := 0) (cs' := #[.int .i64 0, .int .i64 0]) hF hM (by kernel_rfl) rfl rfl (by kernel_rfl) (by kernel_rfl) rfl (by kernel_rfl) fun w hM => ?_)
        refine sB 1 [(5, .int .i64 6)] hF (by kernel_rfl) fun a hF => ?_
        refine wpList_nil ?_
        refine hK9 _ _ ?_
        refine wp_ret ?_
        refine hR0 _ _ ?_
        refine ret_of hF hM (.cell (i := 3) rfl rfl (v := .agg #[.int .i64 0, .int .i64 0]) (by kernel_rfl) (.tmp rfl (.nil))) ?_
        have hd := ou_6 hz1 (show ¬ bkE (ouN b q r t) q = 0 from hz4)
        exact ⟨ret_eq (by rw [hd.1, hd.2.1, hd.2.2]; rfl), hM.bel⟩
  · skip
    refine wp_region_lit ?_
    refine wl (eL 10 1 0 (v := .agg #[.int .i64 b, .int .i64 q]) hF hM (by kernel_rfl) rfl rfl (by kernel_rfl) (by kernel_rfl) fun a w hF hM => ?_)
    refine wl (eN 11 7 (t := 39) (fun b => .slice (some ⟨b, 0, none⟩) 1 1) #[.int .i64 b, .int .i64 q] hF hM (by kernel_rfl) (fun _ => by kernel_rfl) fun bb7 a w hF hM => ?_)
    refine wl (eL 12 2 0 (v := .agg #[.int .i64 r, .int .i64 t]) hF hM (by kernel_rfl) rfl rfl (by kernel_rfl) (by kernel_rfl) fun a w hF hM => ?_)
    refine wl (eM 13 (v := .tuple #[.int .i64 0, .int .i64 (csE b q r t)]) hF hM (by kernel_rfl) (yld_call (f := 21) (args := #[.slice (some ⟨bb7, 0, none⟩) 1 1, .agg #[.int .i64 r, .int .i64 t]]) hF (by kernel_rfl) (fun _ => by kernel_rfl) (fun w hM => tup_to (dl_bad hz1).2 (dl_bad hz1).1 (rDelay_w r t (some ⟨bb7, 0, none⟩) [(b, q)] _ w (hM.roRow (k := 7) rfl)))) fun a w hF hM => ?_)
    refine sB 5 [(9, .tuple #[.int .i64 0, .int .i64 (csE b q r t)]), (14, .int .i64 0), (15, .int .i64 (csE b q r t)), (6, .int .i64 0), (7, .int .i64 (csE b q r t))] hF (by kernel_rfl) fun a hF => ?_
    refine wpList_nil ?_
    refine hK2 _ _ ?_
    refine wp_seq_k fun K10 hK10 => ?_
    refine wp_seq_k fun K11 hK11 => ?_
    refine wp_region_lit ?_
    refine sB 1 [(16, .int .i64 (csE b q r t))] hF (by kernel_rfl) fun a hF => ?_
    refine wl (eP 17 (v0 := .bool (!decide (csE b q r t = 0))) (v := .bool true) hF (by kernel_rfl) (fun _ => by kernel_rfl) (nF hz1) fun a hF => ?_)
    refine wpList_nil ?_
    refine hK11 _ _ ?_
    refine cT hF (by kernel_rfl) (by kernel_rfl) ?_
    refine wp_seq_k fun K12 hK12 => ?_
    refine wp_region_lit ?_
    refine sB 2 [(18, .agg #[.int .i64 0, .int .i64 0]), (19, .int .i64 (csE b q r t))] hF (by kernel_rfl) fun a hF => ?_
    refine wl (sStore (i := 3) (off := 0) (cs' := #[.int .i64 0, .int .i64 0]) hF hM (by kernel_rfl) rfl rfl (by kernel_rfl) (by kernel_rfl) rfl (by kernel_rfl) fun w hM => ?_)
    refine sB 1 [(5, .int .i64 (csE b q r t))] hF (by kernel_rfl) fun a hF => ?_
    refine wpList_nil ?_
    refine hK12 _ _ ?_
    refine wp_ret ?_
    refine hR0 _ _ ?_
    refine ret_of hF hM (.cell (i := 3) rfl rfl (v := .agg #[.int .i64 0, .int .i64 0]) (by kernel_rfl) (.tmp rfl (.nil))) ?_
    have hd := ou_cs hz1
    exact ⟨ret_eq (by rw [hd.1, hd.2.1, hd.2.2]; rfl), hM.bel⟩

theorem rDrain_err (r t : Int) (A : Option Addr) (l : List (Int × Int)) (c : Nat) (w0 : World) (hA : Ro w0 A (flat2 l)) (h : ¬ drE r t l = 0) :
    Calls Try.prog 28 #[.slice A l.length c, .agg #[.int .i64 r, .int .i64 t]] w0 (Ret w0 (.tuple #[.slice none 0 0, .int .i64 (drE r t l)])) := by
  refine enterK 56 Try.func28 rfl rfl rfl ?_
  intro a hF Q0 hR0 hN0
  have hM := Mem.start w0
  replace hM := hM.addOld 1 hA (Nat.le_refl _)
  refine wp_seq_k fun K1 hK1 => ?_
  refine wp_region_lit ?_
  refine wl (eN 3 2 (t := 23) (fun b => .pointer (some ⟨b, 0, none⟩)) #[.int .i64 r, .int .i64 t] hF hM (by kernel_rfl) (fun _ => by kernel_rfl) fun bb1 a w hF hM => ?_)
  refine sB 2 [(4, .slice none 0 0), (5, .int .i64 0)] hF (by kernel_rfl) fun a hF => ?_
  refine wpList_nil ?_
  refine hK1 _ _ ?_
  refine wp_seq_k fun K2 hK2 => ?_
  refine wp_seq_k fun K3 hK3 => ?_
  cases hz1 : (trB l)
  · skip
    refine wp_region_lit ?_
    refine sB 1 [(11, .slice A l.length c)] hF (by kernel_rfl) fun a hF => ?_
    refine wl (eM 12 (v := .bool false) hF hM (by kernel_rfl) (Yld.to (yld_call (f := 53) (args := #[.slice A l.length c]) hF (by kernel_rfl) (fun _ => by kernel_rfl) (fun w hM => rightTrace_w A l _ w (hM.ok 1 _ rfl))) (congrArg Value.bool hz1)) fun a w hF hM => ?_)
    refine sB 1 [(13, .bool true)] hF (by kernel_rfl) fun a hF => ?_
    refine wpList_nil ?_
    refine hK3 _ _ ?_
    refine cT hF (by kernel_rfl) (by kernel_rfl) ?_
    refine wp_seq_k fun K4 hK4 => ?_
    refine wp_region_lit ?_
    refine sB 2 [(4, .slice none 0 0), (5, .int .i64 131)] hF (by kernel_rfl) fun a hF => ?_
    refine wpList_nil ?_
    refine hK4 _ _ ?_
    refine wp_ret ?_
    refine hR0 _ _ ?_
    refine ret_of hF hM (.tmp rfl (.tmp rfl (.nil))) ?_
    have hte : trE l = 131 := by unfold trE; rw [hz1]; rfl
    exact ⟨ret_eq (by rw [dr_1 (by rw [hte]; decide), hte]; rfl), hM.bel⟩
  · skip
    refine wp_region_lit ?_
    refine sB 1 [(11, .slice A l.length c)] hF (by kernel_rfl) fun a hF => ?_
    refine wl (eM 12 (v := .bool true) hF hM (by kernel_rfl) (Yld.to (yld_call (f := 53) (args := #[.slice A l.length c]) hF (by kernel_rfl) (fun _ => by kernel_rfl) (fun w hM => rightTrace_w A l _ w (hM.ok 1 _ rfl))) (congrArg Value.bool hz1)) fun a w hF hM => ?_)
    refine sB 1 [(13, .bool false)] hF (by kernel_rfl) fun a hF => ?_
    refine wpList_nil ?_
    refine hK3 _ _ ?_
    refine cF hF (by kernel_rfl) (by kernel_rfl) ?_
    refine wp_skip ?_
    refine hK2 _ _ ?_
    refine wp_seq_k fun K5 hK5 => ?_
    refine wp_seq_k fun K6 hK6 => ?_
    by_cases hz2 : svE r t = 0
    · skip
      have hz3 := svE_ok hz2
      exact absurd ((dr_2 (by unfold trE; rw [if_pos hz1])).trans hz2) h
    · skip
      refine wp_region_lit ?_
      refine wl (eL 14 2 0 (v := .agg #[.int .i64 r, .int .i64 t]) hF hM (by kernel_rfl) rfl rfl (by kernel_rfl) (by kernel_rfl) fun a w hF hM => ?_)
      refine wl (eM 15 (v := .bool false) hF hM (by kernel_rfl) (yld_call (f := 37) (args := #[.agg #[.int .i64 r, .int .i64 t]]) hF (by kernel_rfl) (fun _ => by kernel_rfl) (fun w hM => right4_no r t w hz2)) fun a w hF hM => ?_)
      refine sB 1 [(16, .bool true)] hF (by kernel_rfl) fun a hF => ?_
      refine wpList_nil ?_
      refine hK6 _ _ ?_
      refine cT hF (by kernel_rfl) (by kernel_rfl) ?_
      refine wp_seq_k fun K7 hK7 => ?_
      refine wp_region_lit ?_
      refine sB 2 [(4, .slice none 0 0), (5, .int .i64 140)] hF (by kernel_rfl) fun a hF => ?_
      refine wpList_nil ?_
      refine hK7 _ _ ?_
      refine wp_ret ?_
      refine hR0 _ _ ?_
      refine ret_of hF hM (.tmp rfl (.tmp rfl (.nil))) ?_
      exact ⟨ret_eq (by rw [dr_2 (by unfold trE; rw [if_pos hz1]), svE_no hz2]; rfl), hM.bel⟩

theorem sumN_at {l : List (Int × Int)} {i : Nat} (h : 0 < i) : sumN l i = sumN l (i - 1) + (pr l (i - 1)).2 := by
  obtain ⟨j, rfl⟩ : ∃ z : Nat, i = z + 1 := ⟨i - 1, by omega⟩
  rfl
theorem rd_step {r t : Int} {l : List (Int × Int)} {m i j : Nat} (h : i = j + 1) (hm : i ≤ m + 1) : rdL r t l m (m + 1 - j) = max (rdL r t l m (m + 1 - i)) ((pr l (i - 1)).1 + t + cq ((sumN l (m + 1) - sumN l (i - 1)) * 1048576) r) := by
  rw [show m + 1 - j = (m + 1 - i) + 1 by omega]
  show max _ _ = _
  rw [show m - (m + 1 - i) = i - 1 by omega]
theorem rDrain_ok (r t : Int) (A : Option Addr) (l : List (Int × Int)) (c : Nat) (w0 : World) (hA : Ro w0 A (flat2 l)) (e1 : trE l = 0) (e2 : svE r t = 0) :
    Calls Try.prog 28 #[.slice A l.length c, .agg #[.int .i64 r, .int .i64 t]] w0 (RetOwn w0 (fun v => .tuple #[v, .int .i64 0]) 3 1 l.length ((drL r t l l.length).map (Value.int .i64))) := by
  have f1 := trE_ok e1
  have f2 := svE_ok e2
  have tb := trB_ofE e1
  refine enterK 56 Try.func28 rfl rfl rfl ?_
  intro a hF Q0 hR0 hN0
  have hM := Mem.start w0
  replace hM := hM.addOld 1 hA (Nat.le_refl _)
  have hz1 := svE_ok e2
  refine wp_seq_k fun K1 hK1 => ?_
  refine wp_region_lit ?_
  refine wl (eN 3 2 (t := 23) (fun b => .pointer (some ⟨b, 0, none⟩)) #[.int .i64 r, .int .i64 t] hF hM (by kernel_rfl) (fun _ => by kernel_rfl) fun bb1 a w hF hM => ?_)
  refine sB 2 [(4, .slice none 0 0), (5, .int .i64 0)] hF (by kernel_rfl) fun a hF => ?_
  refine wpList_nil ?_
  refine hK1 _ _ ?_
  refine wp_seq_k fun K2 hK2 => ?_
  refine wp_seq_k fun K3 hK3 => ?_
  refine wp_region_lit ?_
  refine sB 1 [(11, .slice A l.length c)] hF (by kernel_rfl) fun a hF => ?_
  refine wl (eM 12 (v := .bool true) hF hM (by kernel_rfl) (Yld.to (yld_call (f := 53) (args := #[.slice A l.length c]) hF (by kernel_rfl) (fun _ => by kernel_rfl) (fun w hM => rightTrace_w A l _ w (hM.ok 1 _ rfl))) (congrArg Value.bool tb)) fun a w hF hM => ?_)
  refine sB 1 [(13, .bool false)] hF (by kernel_rfl) fun a hF => ?_
  refine wpList_nil ?_
  refine hK3 _ _ ?_
  refine cF hF (by kernel_rfl) (by kernel_rfl) ?_
  refine wp_skip ?_
  refine hK2 _ _ ?_
  refine wp_seq_k fun K4 hK4 => ?_
  refine wp_seq_k fun K5 hK5 => ?_
  refine wp_region_lit ?_
  refine wl (eL 14 2 0 (v := .agg #[.int .i64 r, .int .i64 t]) hF hM (by kernel_rfl) rfl rfl (by kernel_rfl) (by kernel_rfl) fun a w hF hM => ?_)
  refine wl (eM 15 (v := .bool true) hF hM (by kernel_rfl) (yld_call (f := 37) (args := #[.agg #[.int .i64 r, .int .i64 t]]) hF (by kernel_rfl) (fun _ => by kernel_rfl) (fun w hM => right4_yes r t w e2)) fun a w hF hM => ?_)
  refine sB 1 [(16, .bool false)] hF (by kernel_rfl) fun a hF => ?_
  refine wpList_nil ?_
  refine hK5 _ _ ?_
  refine cF hF (by kernel_rfl) (by kernel_rfl) ?_
  refine wp_skip ?_
  refine hK4 _ _ ?_
  refine wp_seq_k fun K6 hK6 => ?_
  refine wp_region_lit ?_
  refine sB 1 [(6, .slice none 0 0)] hF (by kernel_rfl) fun a hF => ?_
  refine wpList_nil ?_
  refine hK6 _ _ ?_
  refine wp_seq_k fun K7 hK7 => ?_
  refine wp_seq_k fun K8 hK8 => ?_
  refine wp_region_lit ?_
  refine sB 1 [(7, .int .i64 0)] hF (by kernel_rfl) fun a hF => ?_
  refine wpList_nil ?_
  refine hK8 _ _ ?_
  refine wp_block ?_
  replace hM := hM.addNil 3 3 1
  refine wp_loop_k (G := Nat × List Int × Option Addr × Nat) (fun gg a w => Fr 56 [(6, some (.slice gg.2.2.1 gg.1 gg.2.2.2)), (7, some (.int .i64 (gg.1 : Int))), (0, some (.slice A l.length c)), (3, some (.pointer (some ⟨bb1, 0, none⟩))), (4, some (.slice none 0 0)), (5, some (.int .i64 0))] a ∧ Mem w0.heap.size w0 [(1, some (.ro A (flat2 l))), (2, some (.row bb1 23 #[.int .i64 r, .int .i64 t])), (3, some (.own (.slice gg.2.2.1 gg.1 gg.2.2.2) 3 1 gg.1 (gg.2.1.map (Value.int .i64))))] w ∧ ((gg.1 : Int) ≤ (l.length : Int)) ∧ (gg.2.1 = drL r t l gg.1)) (fun gg => l.length - gg.1) (0, [], none, 0) ?_ ?_
  · refine ⟨(((((((Fr.nil hF).c hF (i := 5) rfl rfl).c hF (i := 4) rfl rfl).c hF (i := 3) rfl rfl).c hF (i := 0) rfl rfl).c hF (i := 7) rfl (vi (show (0 : Int) = (0 : Int) from by omega))).c hF (i := 6) rfl rfl), (hM.sub (((Sub.nil.c (k := 3) rfl rfl).c (k := 2) rfl rfl).c (k := 1) rfl rfl)), (show (0 : Int) ≤ (l.length : Int) from by omega), (show ([]) = drL r t l 0 from by rfl)⟩
  · intro gg a w hI
    intro K9 hK9
    obtain ⟨m, got, G, gc⟩ := gg
    try dsimp only at hI hK9
    obtain ⟨hF, hM, hz2, hz3⟩ := hI
    refine wp_seq_k fun K10 hK10 => ?_
    refine wp_seq_k fun K11 hK11 => ?_
    refine wp_region_lit ?_
    refine sB 4 [(17, .int .i64 (m : Int)), (18, .slice A l.length c), (19, .int .i64 (l.length : Int)), (20, .bool (decide ((m : Int) < (l.length : Int))))] hF (by kernel_rfl) fun a hF => ?_
    refine wpList_nil ?_
    refine hK11 _ _ ?_
    by_cases hz4 : (m : Int) < (l.length : Int)
    · skip
      replace hF := hF.c hF (i := 20) (v := .bool true) rfl (bT hz4)
      refine cT hF (by kernel_rfl) (by kernel_rfl) ?_
      refine wp_skip ?_
      refine hK10 _ _ ?_
      refine wp_seq_k fun K12 hK12 => ?_
      refine wp_block ?_
      refine wp_seq_k fun K13 hK13 => ?_
      refine wp_region_lit ?_
      refine sB 2 [(8, .int .i64 0), (9, .int .i64 0)] hF (by kernel_rfl) fun a hF => ?_
      refine wpList_nil ?_
      refine hK13 _ _ ?_
      refine wp_seq_k fun K14 hK14 => ?_
      refine wp_seq_k fun K15 hK15 => ?_
      have hr0 : rdL r t l m (m + 1 - (m + 1)) = 0 := by rw [Nat.sub_self]; rfl
      refine wp_region_lit ?_
      refine sB 2 [(23, .int .i64 (m : Int)), (10, .int .i64 (m : Int))] hF (by kernel_rfl) fun a hF => ?_
      refine wpList_nil ?_
      refine hK15 _ _ ?_
      refine wp_block ?_
      refine wp_loop_k (G := Nat) (fun gg a w => Fr 56 [(8, some (.int .i64 (rdL r t l m (m + 1 - gg)))), (9, some (.int .i64 (sumN l (m + 1) - sumN l gg))), (10, some (.int .i64 ((gg : Int) - 1))), (0, some (.slice A l.length c)), (3, some (.pointer (some ⟨bb1, 0, none⟩))), (4, some (.slice none 0 0)), (5, some (.int .i64 0)), (6, some (.slice G m gc)), (7, some (.int .i64 (m : Int)))] a ∧ Mem w0.heap.size w0 [(1, some (.ro A (flat2 l))), (2, some (.row bb1 23 #[.int .i64 r, .int .i64 t])), (3, some (.own (.slice G m gc) 3 1 m (got.map (Value.int .i64))))] w ∧ ((gg : Int) ≤ (m : Int) + 1)) (fun gg => gg) (m + 1) ?_ ?_
      · refine ⟨((((((((((Fr.nil hF).c hF (i := 7) rfl rfl).c hF (i := 6) rfl rfl).c hF (i := 5) rfl rfl).c hF (i := 4) rfl rfl).c hF (i := 3) rfl rfl).c hF (i := 0) rfl rfl).c hF (i := 10) rfl (vi (show ((m : Int) : Int) = ((m + 1) : Int) - 1 from by omega))).c hF (i := 9) rfl (vi (show (0 : Int) = sumN l (m + 1) - sumN l (m + 1) from by omega))).c hF (i := 8) rfl (vi (show (0 : Int) = rdL r t l m (m + 1 - (m + 1)) from by omega))), (hM.sub (((Sub.nil.c (k := 3) rfl rfl).c (k := 2) rfl rfl).c (k := 1) rfl rfl)), (show ((m + 1) : Int) ≤ (m : Int) + 1 from by omega)⟩
      · intro gg a w hI
        intro K16 hK16
        obtain ⟨i, rfl⟩ : ∃ x, x = gg := ⟨_, rfl⟩
        try dsimp only at hI hK16
        obtain ⟨hF, hM, hz5⟩ := hI
        refine wp_seq_k fun K17 hK17 => ?_
        refine wp_seq_k fun K18 hK18 => ?_
        refine wp_region_lit ?_
        refine sB 2 [(24, .int .i64 ((i : Int) - 1)), (25, .bool (decide (0 ≤ (i : Int) - 1)))] hF (by kernel_rfl) fun a hF => ?_
        refine wpList_nil ?_
        refine hK18 _ _ ?_
        by_cases hz6 : 0 ≤ (i : Int) - 1
        · skip
          replace hF := hF.c hF (i := 25) (v := .bool true) rfl (bT hz6)
          refine cT hF (by kernel_rfl) (by kernel_rfl) ?_
          refine wp_skip ?_
          refine hK17 _ _ ?_
          refine wp_seq_k fun K19 hK19 => ?_
          refine wp_block ?_
          refine wp_seq_k fun K20 hK20 => ?_
          have hs0 : sumN l i = sumN l (i - 1) + (pr l (i - 1)).2 := sumN_at (by omega)
          have hs1 := sumN_bd e1 (m + 1) (by omega)
          have hs2 := sumN_bd e1 (i - 1) (by omega)
          have hs3 := sumN_mono e1 (i := i) (k := m + 1) (by omega) (by omega)
          have hs4 := tr_all e1 (i - 1) (by omega)
          have hs5 := rdL_bd (r := r) (t := t) (l := l) (j := m) (by omega) (by omega) e1 (by omega) (m + 1 - i) (by omega)
          refine wp_region_lit ?_
          refine sB 3 [(28, .int .i64 (sumN l (m + 1) - sumN l i)), (29, .slice A l.length c), (30, .int .i64 ((i : Int) - 1))] hF (by kernel_rfl) fun a hF => ?_
          refine wl (eM 31 (v := .pointer (some (ea A ((i - 1) * 2)))) hF hM (by kernel_rfl) (yld_ix (kd := .i64) (e := 64) (len := l.length) (cap := c) (i := (i : Int) - 1) (size := 2) (A := A) hF rfl (by kernel_rfl) (by kernel_rfl) (by kernel_rfl) (by kernel_rfl) (by kernel_rfl) (roK 1 rfl) (by omega) (by omega) (by rw [flat2_length]; omega)) fun a w hF hM => ?_)
          refine sB 1 [(32, .pointer (some (ea A ((i - 1) * 2 + 1))))] hF (by kernel_rfl) fun a hF => ?_
          refine wl (eM 33 (v := .int .i64 (pr l (i - 1)).2) hF hM (by kernel_rfl) (yld_ro1 (A := A) (j := (i - 1) * 2 + 1) hF rfl (by kernel_rfl) (by kernel_rfl) (roK 1 rfl) (by kernel_rfl) (pr_snd (k := i - 1) (by omega) (by omega))) fun a w hF hM => ?_)
          refine wl (eP 34 (v0 := .int .i64 (IntKind.i64.wrap (sumN l (m + 1) - sumN l i + (pr l (i - 1)).2))) (v := .int .i64 (sumN l (m + 1) - sumN l (i - 1))) hF (by kernel_rfl) (fun _ => by kernel_rfl) (vi ((w64 (by omega)).trans (by omega))) fun a hF => ?_)
          refine sB 1 [(9, .int .i64 (sumN l (m + 1) - sumN l (i - 1)))] hF (by kernel_rfl) fun a hF => ?_
          refine wpList_nil ?_
          refine hK20 _ _ ?_
          refine rQ hM (by kernel_rfl) (by kernel_rfl) ?_
          refine eQ 35 (v0 := .int .i64 (rdL r t l m (m + 1 - i))) (v := .int .i64 (rdL r t l m (m + 1 - i))) hF (by kernel_rfl) (fun _ => by kernel_rfl) rfl fun a hF => ?_
          refine eQ 36 (v0 := .slice A l.length c) (v := .slice A l.length c) hF (by kernel_rfl) (fun _ => by kernel_rfl) rfl fun a hF => ?_
          refine eQ 37 (v0 := .int .i64 ((i : Int) - 1)) (v := .int .i64 ((i : Int) - 1)) hF (by kernel_rfl) (fun _ => by kernel_rfl) rfl fun a hF => ?_
          refine eQ2 38 (v := .pointer (some (ea A ((i - 1) * 2)))) hF (by kernel_rfl) (yld_ix (kd := .i64) (e := 64) (len := l.length) (cap := c) (i := (i : Int) - 1) (size := 2) (A := A) hF rfl (by kernel_rfl) (by kernel_rfl) (by kernel_rfl) (by kernel_rfl) (by kernel_rfl) (roK 1 rfl) (by omega) (by omega) (by rw [flat2_length]; omega)) fun a hF => ?_
          refine eQ 39 (v0 := .pointer (some (ea A ((i - 1) * 2)))) (v := .pointer (some (ea A ((i - 1) * 2)))) hF (by kernel_rfl) (fun _ => by kernel_rfl) rfl fun a hF => ?_
          refine eQ2 40 (v := .int .i64 (pr l (i - 1)).1) hF (by kernel_rfl) (yld_ro1 (A := A) (j := (i - 1) * 2) hF rfl (by kernel_rfl) (by kernel_rfl) (roK 1 rfl) (by kernel_rfl) (pr_fst (k := i - 1) (by omega) (by omega))) fun a hF => ?_
          refine eQ 41 (v0 := .pointer (some ⟨bb1, 1, none⟩)) (v := .pointer (some ⟨bb1, 1, none⟩)) hF (by kernel_rfl) (fun _ => by kernel_rfl) rfl fun a hF => ?_
          refine eQL 42 2 1 (v := .int .i64 t) hF (by kernel_rfl) rfl rfl (by kernel_rfl) (by kernel_rfl) fun a hF => ?_
          refine eQ 43 (v0 := .int .i64 (IntKind.i64.wrap ((pr l (i - 1)).1 + t))) (v := .int .i64 ((pr l (i - 1)).1 + t)) hF (by kernel_rfl) (fun _ => by kernel_rfl) (wi (by omega)) fun a hF => ?_
          refine eQ 44 (v0 := .int .i64 (sumN l (m + 1) - sumN l (i - 1))) (v := .int .i64 (sumN l (m + 1) - sumN l (i - 1))) hF (by kernel_rfl) (fun _ => by kernel_rfl) rfl fun a hF => ?_
          refine eQ 45 (v0 := .int .i64 (IntKind.i64.wrap ((sumN l (m + 1) - sumN l (i - 1)) * 1048576))) (v := .int .i64 ((sumN l (m + 1) - sumN l (i - 1)) * 1048576)) hF (by kernel_rfl) (fun _ => by kernel_rfl) (wi (by omega)) fun a hF => ?_
          refine eQ 46 (v0 := .pointer (some ⟨bb1, 0, none⟩)) (v := .pointer (some ⟨bb1, 0, none⟩)) hF (by kernel_rfl) (fun _ => by kernel_rfl) rfl fun a hF => ?_
          refine eQL 47 2 0 (v := .int .i64 r) hF (by kernel_rfl) rfl rfl (by kernel_rfl) (by kernel_rfl) fun a hF => ?_
          refine eQ2 48 (v := .int .i64 (cq ((sumN l (m + 1) - sumN l (i - 1)) * 1048576) r)) hF (by kernel_rfl) (yld_call (f := 48) (args := #[.int .i64 ((sumN l (m + 1) - sumN l (i - 1)) * 1048576), .int .i64 r]) hF (by kernel_rfl) (fun _ => by kernel_rfl) (fun w hM => rCeil4_w ((sumN l (m + 1) - sumN l (i - 1)) * 1048576) r w (by omega))) fun a hF => ?_
          have := cq_in (n := (sumN l (m + 1) - sumN l (i - 1)) * 1048576) (d := r) (B := 219902325555200) (by omega) (by omega) (by omega)
          refine eQ 49 (v0 := .int .i64 (IntKind.i64.wrap ((pr l (i - 1)).1 + t + cq ((sumN l (m + 1) - sumN l (i - 1)) * 1048576) r))) (v := .int .i64 ((pr l (i - 1)).1 + t + cq ((sumN l (m + 1) - sumN l (i - 1)) * 1048576) r)) hF (by kernel_rfl) (fun _ => by kernel_rfl) (wi (by omega)) fun a hF => ?_
          refine eQ 50 (v0 := .int .i64 (if (pr l (i - 1)).1 + t + cq ((sumN l (m + 1) - sumN l (i - 1)) * 1048576) r > rdL r t l m (m + 1 - i) then (pr l (i - 1)).1 + t + cq ((sumN l (m + 1) - sumN l (i - 1)) * 1048576) r else rdL r t l m (m + 1 - i))) (v := .int .i64 (max (rdL r t l m (m + 1 - i)) ((pr l (i - 1)).1 + t + cq ((sumN l (m + 1) - sumN l (i - 1)) * 1048576) r))) hF (by kernel_rfl) (fun _ => by kernel_rfl) (vi (max_if _ _)) fun a hF => ?_
          refine eQ 8 (v0 := .int .i64 (max (rdL r t l m (m + 1 - i)) ((pr l (i - 1)).1 + t + cq ((sumN l (m + 1) - sumN l (i - 1)) * 1048576) r))) (v := .int .i64 (max (rdL r t l m (m + 1 - i)) ((pr l (i - 1)).1 + t + cq ((sumN l (m + 1) - sumN l (i - 1)) * 1048576) r))) hF (by kernel_rfl) (fun _ => by kernel_rfl) rfl fun a hF => ?_
          refine wpQuiet_nil ?_
          intro w hM
          refine hK19 _ _ ?_
          refine wp_region_lit ?_
          refine sB 1 [(26, .int .i64 ((i : Int) - 1))] hF (by kernel_rfl) fun a hF => ?_
          refine wl (eP 27 (v0 := .int .i64 (IntKind.i64.wrap ((i : Int) - 1 - 1))) (v := .int .i64 ((i : Int) - 1 - 1)) hF (by kernel_rfl) (fun _ => by kernel_rfl) (wi (by omega)) fun a hF => ?_)
          refine sB 1 [(10, .int .i64 ((i : Int) - 1 - 1))] hF (by kernel_rfl) fun a hF => ?_
          refine wpList_nil ?_
          obtain ⟨j, hj⟩ : ∃ z : Nat, i = z + 1 := ⟨i - 1, by omega⟩
          have hji : i - 1 = j := by omega
          have hrd : rdL r t l m (m + 1 - j) = max (rdL r t l m (m + 1 - i)) ((pr l (i - 1)).1 + t + cq ((sumN l (m + 1) - sumN l (i - 1)) * 1048576) r) := rd_step (by omega) (by omega)
          have hsj : sumN l (i - 1) = sumN l j := by rw [hji]
          refine hK16 _ _ ⟨(j), ⟨((((((((((Fr.nil hF).c hF (i := 7) rfl rfl).c hF (i := 6) rfl rfl).c hF (i := 5) rfl rfl).c hF (i := 4) rfl rfl).c hF (i := 3) rfl rfl).c hF (i := 0) rfl rfl).c hF (i := 10) rfl (vi (show ((i : Int) - 1 - 1 : Int) = (j : Int) - 1 from by omega))).c hF (i := 9) rfl (vi (show (sumN l (m + 1) - sumN l (i - 1) : Int) = sumN l (m + 1) - sumN l j from by omega))).c hF (i := 8) rfl (vi (show (max (rdL r t l m (m + 1 - i)) ((pr l (i - 1)).1 + t + cq ((sumN l (m + 1) - sumN l (i - 1)) * 1048576) r) : Int) = rdL r t l m (m + 1 - j) from by omega))), (hM.sub (((Sub.nil.c (k := 3) rfl rfl).c (k := 2) rfl rfl).c (k := 1) rfl rfl)), (show (j : Int) ≤ (m : Int) + 1 from by omega)⟩, (show j < i from by omega)⟩
        · skip
          replace hF := hF.c hF (i := 25) (v := .bool false) rfl (bF hz6)
          refine cF hF (by kernel_rfl) (by kernel_rfl) ?_
          refine wp_exit ?_
          refine hK14 _ _ ?_
          refine wp_region_lit ?_
          refine sB 2 [(51, .slice G m gc), (52, .int .i64 (rdL r t l m (m + 1 - i)))] hF (by kernel_rfl) fun a hF => ?_
          refine wl (eN 53 4 (t := 3) (fun b => .slice (some ⟨b, 0, none⟩) 1 1) #[.int .i64 (rdL r t l m (m + 1 - i))] hF hM (by kernel_rfl) (fun _ => by kernel_rfl) fun bb2 a w hF hM => ?_)
          refine wl (sApp 54 3 (e := 3) (size := 1) (bytes := 8) (z := .int .i64 0) (m := 1) (c := 1) (l := m) (cap := gc) (A := G) (news := [.int .i64 (rdL r t l m (m + 1 - i))]) ((got ++ [rdL r t l m (m + 1 - i)]).map (Value.int .i64)) hF hM (by kernel_rfl) rfl (by kernel_rfl) (by kernel_rfl) (by kernel_rfl) rfl rfl rfl rfl (roR 4 rfl) (by simp [Value.oneCell']) (by omega) (by decide) (map_snoc' _ _ _) fun AA3 cc3 a w hF hM => ?_)
          refine sB 1 [(6, .slice AA3 (m + 1) cc3)] hF (by kernel_rfl) fun a hF => ?_
          refine wpList_nil ?_
          refine hK12 _ _ ?_
          refine wp_region_lit ?_
          refine sB 1 [(21, .int .i64 (m : Int))] hF (by kernel_rfl) fun a hF => ?_
          refine wl (eP 22 (v0 := .int .i64 (IntKind.i64.wrap ((m : Int) + 1))) (v := .int .i64 ((m : Int) + 1)) hF (by kernel_rfl) (fun _ => by kernel_rfl) (wi (by omega)) fun a hF => ?_)
          refine sB 1 [(7, .int .i64 ((m : Int) + 1))] hF (by kernel_rfl) fun a hF => ?_
          refine wpList_nil ?_
          have hi0 : i = 0 := by omega
          have hre := rdL_end (r := r) (t := t) (l := l) (j := m) (by omega) (by omega) e1 (by omega)
          have hgg : got ++ [rdL r t l m (m + 1 - i)] = drL r t l (m + 1) := by rw [hi0, Nat.sub_zero, hre, ‹got = drL r t l m›]; rfl
          refine hK9 _ _ ⟨(m + 1, got ++ [rdL r t l m (m + 1 - i)], AA3, cc3), ⟨(((((((Fr.nil hF).c hF (i := 5) rfl rfl).c hF (i := 4) rfl rfl).c hF (i := 3) rfl rfl).c hF (i := 0) rfl rfl).c hF (i := 7) rfl (vi (show ((m : Int) + 1 : Int) = ((m + 1) : Int) from by omega))).c hF (i := 6) rfl rfl), (hM.sub (((Sub.nil.c (k := 3) rfl rfl).c (k := 2) rfl rfl).c (k := 1) rfl rfl)), (show ((m + 1) : Int) ≤ (l.length : Int) from by omega), (show (got ++ [rdL r t l m (m + 1 - i)]) = drL r t l (m + 1) from by exact hgg)⟩, (show l.length - (m + 1) < l.length - m from by omega)⟩
    · skip
      replace hF := hF.c hF (i := 20) (v := .bool false) rfl (bF hz4)
      refine cF hF (by kernel_rfl) (by kernel_rfl) ?_
      refine wp_exit ?_
      refine hK7 _ _ ?_
      refine wp_seq_k fun K21 hK21 => ?_
      refine wp_region_lit ?_
      refine sB 3 [(55, .slice G m gc), (4, .slice G m gc), (5, .int .i64 0)] hF (by kernel_rfl) fun a hF => ?_
      refine wpList_nil ?_
      refine hK21 _ _ ?_
      refine wp_ret ?_
      refine hR0 _ _ ?_
      refine ret_of hF hM (.tmp rfl (.tmp rfl (.nil))) ?_
      have hml : m = l.length := by omega
      have ho := hM.ok 3 _ rfl
      refine ⟨_, _, by rw [← hml]; rfl, ?_, hM.bel⟩
      rw [← hml, ← ‹got = drL r t l m›]; exact ho

end Go.Proofs.Ytoighcbbaacnaaa
