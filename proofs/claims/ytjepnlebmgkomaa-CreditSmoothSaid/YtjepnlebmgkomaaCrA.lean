/-
  Contracts of credit.Check, CheckState and Step.
-/
import Derived.Test.YtjepnlebmgkomaaBk
import Derived.Test.YtjepnlebmgkomaaCrPlain
namespace Go.Proofs.Ytjepnlebmgkomaa
open Go.RowKit
set_option linter.unusedVariables false
set_option linter.unusedSimpArgs false

theorem crCheck_w (r p : Int) (w0 : World) :
    Calls Try.prog 16 #[.agg #[.int .i64 r, .int .i64 p]] w0 (Ret w0 (.int .i64 (slopeE r p))) := by
  refine enterK 29 Try.func16 rfl rfl rfl ?_
  intro a hF Q0 hR0 hN0
  have hM := Mem.start w0
  refine wp_seq_k fun K1 hK1 => ?_
  refine wp_region_lit ?_
  refine wl (eN 1 1 (t := 23) (fun b => .pointer (some ⟨b, 0, none⟩)) #[.int .i64 r, .int .i64 p] hF hM (by kernel_rfl) (fun _ => by kernel_rfl) fun bb1 a w hF hM => ?_)
  refine sB 1 [(2, .int .i64 0)] hF (by kernel_rfl) fun a hF => ?_
  refine wpList_nil ?_
  refine hK1 _ _ ?_
  refine wp_seq_k fun K2 hK2 => ?_
  refine wp_seq_k fun K3 hK3 => ?_
  by_cases hz1 : r < 1
  · skip
    refine wp_region_lit ?_
    refine sB 1 [(3, .pointer (some ⟨bb1, 0, none⟩))] hF (by kernel_rfl) fun a hF => ?_
    refine wl (eL 4 1 0 (v := .int .i64 r) hF hM (by kernel_rfl) rfl rfl (by kernel_rfl) (by kernel_rfl) fun a w hF hM => ?_)
    refine wl (eP 5 (v0 := .bool (decide (r < 1))) (v := .bool true) hF (by kernel_rfl) (fun _ => by kernel_rfl) (bT hz1) fun a hF => ?_)
    refine sB 23 [(6, .bool true), (7, undef), (8, undef), (9, undef), (10, .bool true), (11, .bool true), (12, undef), (13, undef), (14, undef), (15, .bool true), (16, .bool true), (17, undef), (18, undef), (19, undef), (20, .bool true), (21, .bool true), (22, undef), (23, undef), (24, undef), (25, undef), (26, undef), (27, undef), (28, .bool true)] hF (by kernel_rfl) fun a hF => ?_
    refine wpList_nil ?_
    refine hK3 _ _ ?_
    refine cT hF (by kernel_rfl) (by kernel_rfl) ?_
    refine wp_seq_k fun K4 hK4 => ?_
    refine wp_region_lit ?_
    refine sB 1 [(2, .int .i64 450)] hF (by kernel_rfl) fun a hF => ?_
    refine wpList_nil ?_
    refine hK4 _ _ ?_
    refine wp_ret ?_
    refine hR0 _ _ ?_
    refine ret_of hF hM (.tmp rfl (.nil)) ?_
    exact ⟨ret_int (by rw [slopeE_eq]; omega), hM.bel⟩
  · skip
    by_cases hz2 : 1048576 ≤ r
    · skip
      refine wp_region_lit ?_
      refine sB 1 [(3, .pointer (some ⟨bb1, 0, none⟩))] hF (by kernel_rfl) fun a hF => ?_
      refine wl (eL 4 1 0 (v := .int .i64 r) hF hM (by kernel_rfl) rfl rfl (by kernel_rfl) (by kernel_rfl) fun a w hF hM => ?_)
      refine wl (eP 5 (v0 := .bool (decide (r < 1))) (v := .bool false) hF (by kernel_rfl) (fun _ => by kernel_rfl) (bF hz1) fun a hF => ?_)
      refine sB 2 [(6, .bool false), (7, .pointer (some ⟨bb1, 0, none⟩))] hF (by kernel_rfl) fun a hF => ?_
      refine wl (eL 8 1 0 (v := .int .i64 r) hF hM (by kernel_rfl) rfl rfl (by kernel_rfl) (by kernel_rfl) fun a w hF hM => ?_)
      refine wl (eP 9 (v0 := .bool (decide (1048576 ≤ r))) (v := .bool true) hF (by kernel_rfl) (fun _ => by kernel_rfl) (bT hz2) fun a hF => ?_)
      refine sB 19 [(10, .bool true), (11, .bool true), (12, undef), (13, undef), (14, undef), (15, .bool true), (16, .bool true), (17, undef), (18, undef), (19, undef), (20, .bool true), (21, .bool true), (22, undef), (23, undef), (24, undef), (25, undef), (26, undef), (27, undef), (28, .bool true)] hF (by kernel_rfl) fun a hF => ?_
      refine wpList_nil ?_
      refine hK3 _ _ ?_
      refine cT hF (by kernel_rfl) (by kernel_rfl) ?_
      refine wp_seq_k fun K5 hK5 => ?_
      refine wp_region_lit ?_
      refine sB 1 [(2, .int .i64 450)] hF (by kernel_rfl) fun a hF => ?_
      refine wpList_nil ?_
      refine hK5 _ _ ?_
      refine wp_ret ?_
      refine hR0 _ _ ?_
      refine ret_of hF hM (.tmp rfl (.nil)) ?_
      exact ⟨ret_int (by rw [slopeE_eq]; omega), hM.bel⟩
    · skip
      by_cases hz3 : p < 1
      · skip
        refine wp_region_lit ?_
        refine sB 1 [(3, .pointer (some ⟨bb1, 0, none⟩))] hF (by kernel_rfl) fun a hF => ?_
        refine wl (eL 4 1 0 (v := .int .i64 r) hF hM (by kernel_rfl) rfl rfl (by kernel_rfl) (by kernel_rfl) fun a w hF hM => ?_)
        refine wl (eP 5 (v0 := .bool (decide (r < 1))) (v := .bool false) hF (by kernel_rfl) (fun _ => by kernel_rfl) (bF hz1) fun a hF => ?_)
        refine sB 2 [(6, .bool false), (7, .pointer (some ⟨bb1, 0, none⟩))] hF (by kernel_rfl) fun a hF => ?_
        refine wl (eL 8 1 0 (v := .int .i64 r) hF hM (by kernel_rfl) rfl rfl (by kernel_rfl) (by kernel_rfl) fun a w hF hM => ?_)
        refine wl (eP 9 (v0 := .bool (decide (1048576 ≤ r))) (v := .bool false) hF (by kernel_rfl) (fun _ => by kernel_rfl) (bF hz2) fun a hF => ?_)
        refine sB 3 [(10, .bool false), (11, .bool false), (12, .pointer (some ⟨bb1, 1, none⟩))] hF (by kernel_rfl) fun a hF => ?_
        refine wl (eL 13 1 1 (v := .int .i64 p) hF hM (by kernel_rfl) rfl rfl (by kernel_rfl) (by kernel_rfl) fun a w hF hM => ?_)
        refine wl (eP 14 (v0 := .bool (decide (p < 1))) (v := .bool true) hF (by kernel_rfl) (fun _ => by kernel_rfl) (bT hz3) fun a hF => ?_)
        refine sB 14 [(15, .bool true), (16, .bool true), (17, undef), (18, undef), (19, undef), (20, .bool true), (21, .bool true), (22, undef), (23, undef), (24, undef), (25, undef), (26, undef), (27, undef), (28, .bool true)] hF (by kernel_rfl) fun a hF => ?_
        refine wpList_nil ?_
        refine hK3 _ _ ?_
        refine cT hF (by kernel_rfl) (by kernel_rfl) ?_
        refine wp_seq_k fun K6 hK6 => ?_
        refine wp_region_lit ?_
        refine sB 1 [(2, .int .i64 450)] hF (by kernel_rfl) fun a hF => ?_
        refine wpList_nil ?_
        refine hK6 _ _ ?_
        refine wp_ret ?_
        refine hR0 _ _ ?_
        refine ret_of hF hM (.tmp rfl (.nil)) ?_
        exact ⟨ret_int (by rw [slopeE_eq]; omega), hM.bel⟩
      · skip
        by_cases hz4 : 1000 < p
        · skip
          refine wp_region_lit ?_
          refine sB 1 [(3, .pointer (some ⟨bb1, 0, none⟩))] hF (by kernel_rfl) fun a hF => ?_
          refine wl (eL 4 1 0 (v := .int .i64 r) hF hM (by kernel_rfl) rfl rfl (by kernel_rfl) (by kernel_rfl) fun a w hF hM => ?_)
          refine wl (eP 5 (v0 := .bool (decide (r < 1))) (v := .bool false) hF (by kernel_rfl) (fun _ => by kernel_rfl) (bF hz1) fun a hF => ?_)
          refine sB 2 [(6, .bool false), (7, .pointer (some ⟨bb1, 0, none⟩))] hF (by kernel_rfl) fun a hF => ?_
          refine wl (eL 8 1 0 (v := .int .i64 r) hF hM (by kernel_rfl) rfl rfl (by kernel_rfl) (by kernel_rfl) fun a w hF hM => ?_)
          refine wl (eP 9 (v0 := .bool (decide (1048576 ≤ r))) (v := .bool false) hF (by kernel_rfl) (fun _ => by kernel_rfl) (bF hz2) fun a hF => ?_)
          refine sB 3 [(10, .bool false), (11, .bool false), (12, .pointer (some ⟨bb1, 1, none⟩))] hF (by kernel_rfl) fun a hF => ?_
          refine wl (eL 13 1 1 (v := .int .i64 p) hF hM (by kernel_rfl) rfl rfl (by kernel_rfl) (by kernel_rfl) fun a w hF hM => ?_)
          refine wl (eP 14 (v0 := .bool (decide (p < 1))) (v := .bool false) hF (by kernel_rfl) (fun _ => by kernel_rfl) (bF hz3) fun a hF => ?_)
          refine sB 3 [(15, .bool false), (16, .bool false), (17, .pointer (some ⟨bb1, 1, none⟩))] hF (by kernel_rfl) fun a hF => ?_
          refine wl (eL 18 1 1 (v := .int .i64 p) hF hM (by kernel_rfl) rfl rfl (by kernel_rfl) (by kernel_rfl) fun a w hF hM => ?_)
          refine wl (eP 19 (v0 := .bool (decide (1000 < p))) (v := .bool true) hF (by kernel_rfl) (fun _ => by kernel_rfl) (bT hz4) fun a hF => ?_)
          refine sB 9 [(20, .bool true), (21, .bool true), (22, undef), (23, undef), (24, undef), (25, undef), (26, undef), (27, undef), (28, .bool true)] hF (by kernel_rfl) fun a hF => ?_
          refine wpList_nil ?_
          refine hK3 _ _ ?_
          refine cT hF (by kernel_rfl) (by kernel_rfl) ?_
          refine wp_seq_k fun K7 hK7 => ?_
          refine wp_region_lit ?_
          refine sB 1 [(2, .int .i64 450)] hF (by kernel_rfl) fun a hF => ?_
          refine wpList_nil ?_
          refine hK7 _ _ ?_
          refine wp_ret ?_
          refine hR0 _ _ ?_
          refine ret_of hF hM (.tmp rfl (.nil)) ?_
          exact ⟨ret_int (by rw [slopeE_eq]; omega), hM.bel⟩
        · skip
          refine wp_region_lit ?_
          refine sB 1 [(3, .pointer (some ⟨bb1, 0, none⟩))] hF (by kernel_rfl) fun a hF => ?_
          refine wl (eL 4 1 0 (v := .int .i64 r) hF hM (by kernel_rfl) rfl rfl (by kernel_rfl) (by kernel_rfl) fun a w hF hM => ?_)
          refine wl (eP 5 (v0 := .bool (decide (r < 1))) (v := .bool false) hF (by kernel_rfl) (fun _ => by kernel_rfl) (bF hz1) fun a hF => ?_)
          refine sB 2 [(6, .bool false), (7, .pointer (some ⟨bb1, 0, none⟩))] hF (by kernel_rfl) fun a hF => ?_
          refine wl (eL 8 1 0 (v := .int .i64 r) hF hM (by kernel_rfl) rfl rfl (by kernel_rfl) (by kernel_rfl) fun a w hF hM => ?_)
          refine wl (eP 9 (v0 := .bool (decide (1048576 ≤ r))) (v := .bool false) hF (by kernel_rfl) (fun _ => by kernel_rfl) (bF hz2) fun a hF => ?_)
          refine sB 3 [(10, .bool false), (11, .bool false), (12, .pointer (some ⟨bb1, 1, none⟩))] hF (by kernel_rfl) fun a hF => ?_
          refine wl (eL 13 1 1 (v := .int .i64 p) hF hM (by kernel_rfl) rfl rfl (by kernel_rfl) (by kernel_rfl) fun a w hF hM => ?_)
          refine wl (eP 14 (v0 := .bool (decide (p < 1))) (v := .bool false) hF (by kernel_rfl) (fun _ => by kernel_rfl) (bF hz3) fun a hF => ?_)
          refine sB 3 [(15, .bool false), (16, .bool false), (17, .pointer (some ⟨bb1, 1, none⟩))] hF (by kernel_rfl) fun a hF => ?_
          refine wl (eL 18 1 1 (v := .int .i64 p) hF hM (by kernel_rfl) rfl rfl (by kernel_rfl) (by kernel_rfl) fun a w hF hM => ?_)
          refine wl (eP 19 (v0 := .bool (decide (1000 < p))) (v := .bool false) hF (by kernel_rfl) (fun _ => by kernel_rfl) (bF hz4) fun a hF => ?_)
          refine sB 3 [(20, .bool false), (21, .bool false), (22, .pointer (some ⟨bb1, 0, none⟩))] hF (by kernel_rfl) fun a hF => ?_
          refine wl (eL 23 1 0 (v := .int .i64 r) hF hM (by kernel_rfl) rfl rfl (by kernel_rfl) (by kernel_rfl) fun a w hF hM => ?_)
          refine sB 1 [(24, .pointer (some ⟨bb1, 1, none⟩))] hF (by kernel_rfl) fun a hF => ?_
          refine wl (eL 25 1 1 (v := .int .i64 p) hF hM (by kernel_rfl) rfl rfl (by kernel_rfl) (by kernel_rfl) fun a w hF hM => ?_)
          have hz5 : 1 ≤ r * p ∧ r * p ≤ 1048575000 := mul_bd (1) (1048575) (1) (1000) (by omega) (by omega) (by omega) (by omega) (by decide)
          refine wl (eP 26 (v0 := .int .i64 (IntKind.i64.wrap (r * p))) (v := .int .i64 (r * p)) hF (by kernel_rfl) (fun _ => by kernel_rfl) (wi (by omega)) fun a hF => ?_)
          refine sB 2 [(27, .bool (decide (1048576 ≤ r * p))), (28, .bool (decide (1048576 ≤ r * p)))] hF (by kernel_rfl) fun a hF => ?_
          refine wpList_nil ?_
          refine hK3 _ _ ?_
          by_cases hz6 : 1048576 ≤ r * p
          · skip
            replace hF := hF.c hF (i := 27) (v := .bool true) rfl (bT hz6)
            replace hF := hF.c hF (i := 28) (v := .bool true) rfl (bT hz6)
            refine cT hF (by kernel_rfl) (by kernel_rfl) ?_
            refine wp_seq_k fun K8 hK8 => ?_
            refine wp_region_lit ?_
            refine sB 1 [(2, .int .i64 450)] hF (by kernel_rfl) fun a hF => ?_
            refine wpList_nil ?_
            refine hK8 _ _ ?_
            refine wp_ret ?_
            refine hR0 _ _ ?_
            refine ret_of hF hM (.tmp rfl (.nil)) ?_
            exact ⟨ret_int (by rw [slopeE_eq]; omega), hM.bel⟩
          · skip
            replace hF := hF.c hF (i := 27) (v := .bool false) rfl (bF hz6)
            replace hF := hF.c hF (i := 28) (v := .bool false) rfl (bF hz6)
            refine cF hF (by kernel_rfl) (by kernel_rfl) ?_
            refine wp_skip ?_
            refine hK2 _ _ ?_
            refine wp_seq_k fun K9 hK9 => ?_
            refine wp_region_lit ?_
            refine sB 1 [(2, .int .i64 0)] hF (by kernel_rfl) fun a hF => ?_
            refine wpList_nil ?_
            refine hK9 _ _ ?_
            refine wp_ret ?_
            refine hR0 _ _ ?_
            refine ret_of hF hM (.tmp rfl (.nil)) ?_
            exact ⟨ret_int (by rw [slopeE_eq]; omega), hM.bel⟩

theorem crState_w (aa l : Int) (w0 : World) :
    Calls Try.prog 18 #[.agg #[.int .i64 aa, .int .i64 l]] w0 (Ret w0 (.int .i64 (stateE aa l))) := by
  refine enterK 21 Try.func18 rfl rfl rfl ?_
  intro a hF Q0 hR0 hN0
  have hM := Mem.start w0
  refine wp_seq_k fun K1 hK1 => ?_
  refine wp_region_lit ?_
  refine wl (eN 1 1 (t := 40) (fun b => .pointer (some ⟨b, 0, none⟩)) #[.int .i64 aa, .int .i64 l] hF hM (by kernel_rfl) (fun _ => by kernel_rfl) fun bb1 a w hF hM => ?_)
  refine sB 1 [(2, .int .i64 0)] hF (by kernel_rfl) fun a hF => ?_
  refine wpList_nil ?_
  refine hK1 _ _ ?_
  refine wp_seq_k fun K2 hK2 => ?_
  refine wp_seq_k fun K3 hK3 => ?_
  by_cases hz1 : aa < 0
  · skip
    refine wp_region_lit ?_
    refine sB 1 [(3, .pointer (some ⟨bb1, 0, none⟩))] hF (by kernel_rfl) fun a hF => ?_
    refine wl (eL 4 1 0 (v := .int .i64 aa) hF hM (by kernel_rfl) rfl rfl (by kernel_rfl) (by kernel_rfl) fun a w hF hM => ?_)
    refine wl (eP 5 (v0 := .bool (decide (aa < 0))) (v := .bool true) hF (by kernel_rfl) (fun _ => by kernel_rfl) (bT hz1) fun a hF => ?_)
    refine sB 15 [(6, .bool true), (7, undef), (8, undef), (9, undef), (10, .bool true), (11, .bool true), (12, undef), (13, undef), (14, undef), (15, .bool true), (16, .bool true), (17, undef), (18, undef), (19, undef), (20, .bool true)] hF (by kernel_rfl) fun a hF => ?_
    refine wpList_nil ?_
    refine hK3 _ _ ?_
    refine cT hF (by kernel_rfl) (by kernel_rfl) ?_
    refine wp_seq_k fun K4 hK4 => ?_
    refine wp_region_lit ?_
    refine sB 1 [(2, .int .i64 450)] hF (by kernel_rfl) fun a hF => ?_
    refine wpList_nil ?_
    refine hK4 _ _ ?_
    refine wp_ret ?_
    refine hR0 _ _ ?_
    refine ret_of hF hM (.tmp rfl (.nil)) ?_
    exact ⟨ret_int (by rw [stateE_eq]; omega), hM.bel⟩
  · skip
    by_cases hz2 : 1073741824 < aa
    · skip
      refine wp_region_lit ?_
      refine sB 1 [(3, .pointer (some ⟨bb1, 0, none⟩))] hF (by kernel_rfl) fun a hF => ?_
      refine wl (eL 4 1 0 (v := .int .i64 aa) hF hM (by kernel_rfl) rfl rfl (by kernel_rfl) (by kernel_rfl) fun a w hF hM => ?_)
      refine wl (eP 5 (v0 := .bool (decide (aa < 0))) (v := .bool false) hF (by kernel_rfl) (fun _ => by kernel_rfl) (bF hz1) fun a hF => ?_)
      refine sB 2 [(6, .bool false), (7, .pointer (some ⟨bb1, 0, none⟩))] hF (by kernel_rfl) fun a hF => ?_
      refine wl (eL 8 1 0 (v := .int .i64 aa) hF hM (by kernel_rfl) rfl rfl (by kernel_rfl) (by kernel_rfl) fun a w hF hM => ?_)
      refine wl (eP 9 (v0 := .bool (decide (1073741824 < aa))) (v := .bool true) hF (by kernel_rfl) (fun _ => by kernel_rfl) (bT hz2) fun a hF => ?_)
      refine sB 11 [(10, .bool true), (11, .bool true), (12, undef), (13, undef), (14, undef), (15, .bool true), (16, .bool true), (17, undef), (18, undef), (19, undef), (20, .bool true)] hF (by kernel_rfl) fun a hF => ?_
      refine wpList_nil ?_
      refine hK3 _ _ ?_
      refine cT hF (by kernel_rfl) (by kernel_rfl) ?_
      refine wp_seq_k fun K5 hK5 => ?_
      refine wp_region_lit ?_
      refine sB 1 [(2, .int .i64 450)] hF (by kernel_rfl) fun a hF => ?_
      refine wpList_nil ?_
      refine hK5 _ _ ?_
      refine wp_ret ?_
      refine hR0 _ _ ?_
      refine ret_of hF hM (.tmp rfl (.nil)) ?_
      exact ⟨ret_int (by rw [stateE_eq]; omega), hM.bel⟩
    · skip
      by_cases hz3 : l < -1616904192
      · skip
        refine wp_region_lit ?_
        refine sB 1 [(3, .pointer (some ⟨bb1, 0, none⟩))] hF (by kernel_rfl) fun a hF => ?_
        refine wl (eL 4 1 0 (v := .int .i64 aa) hF hM (by kernel_rfl) rfl rfl (by kernel_rfl) (by kernel_rfl) fun a w hF hM => ?_)
        refine wl (eP 5 (v0 := .bool (decide (aa < 0))) (v := .bool false) hF (by kernel_rfl) (fun _ => by kernel_rfl) (bF hz1) fun a hF => ?_)
        refine sB 2 [(6, .bool false), (7, .pointer (some ⟨bb1, 0, none⟩))] hF (by kernel_rfl) fun a hF => ?_
        refine wl (eL 8 1 0 (v := .int .i64 aa) hF hM (by kernel_rfl) rfl rfl (by kernel_rfl) (by kernel_rfl) fun a w hF hM => ?_)
        refine wl (eP 9 (v0 := .bool (decide (1073741824 < aa))) (v := .bool false) hF (by kernel_rfl) (fun _ => by kernel_rfl) (bF hz2) fun a hF => ?_)
        refine sB 3 [(10, .bool false), (11, .bool false), (12, .pointer (some ⟨bb1, 1, none⟩))] hF (by kernel_rfl) fun a hF => ?_
        refine wl (eL 13 1 1 (v := .int .i64 l) hF hM (by kernel_rfl) rfl rfl (by kernel_rfl) (by kernel_rfl) fun a w hF hM => ?_)
        refine wl (eP 14 (v0 := .bool (decide (l < -1616904192))) (v := .bool true) hF (by kernel_rfl) (fun _ => by kernel_rfl) (bT hz3) fun a hF => ?_)
        refine sB 6 [(15, .bool true), (16, .bool true), (17, undef), (18, undef), (19, undef), (20, .bool true)] hF (by kernel_rfl) fun a hF => ?_
        refine wpList_nil ?_
        refine hK3 _ _ ?_
        refine cT hF (by kernel_rfl) (by kernel_rfl) ?_
        refine wp_seq_k fun K6 hK6 => ?_
        refine wp_region_lit ?_
        refine sB 1 [(2, .int .i64 450)] hF (by kernel_rfl) fun a hF => ?_
        refine wpList_nil ?_
        refine hK6 _ _ ?_
        refine wp_ret ?_
        refine hR0 _ _ ?_
        refine ret_of hF hM (.tmp rfl (.nil)) ?_
        exact ⟨ret_int (by rw [stateE_eq]; omega), hM.bel⟩
      · skip
        refine wp_region_lit ?_
        refine sB 1 [(3, .pointer (some ⟨bb1, 0, none⟩))] hF (by kernel_rfl) fun a hF => ?_
        refine wl (eL 4 1 0 (v := .int .i64 aa) hF hM (by kernel_rfl) rfl rfl (by kernel_rfl) (by kernel_rfl) fun a w hF hM => ?_)
        refine wl (eP 5 (v0 := .bool (decide (aa < 0))) (v := .bool false) hF (by kernel_rfl) (fun _ => by kernel_rfl) (bF hz1) fun a hF => ?_)
        refine sB 2 [(6, .bool false), (7, .pointer (some ⟨bb1, 0, none⟩))] hF (by kernel_rfl) fun a hF => ?_
        refine wl (eL 8 1 0 (v := .int .i64 aa) hF hM (by kernel_rfl) rfl rfl (by kernel_rfl) (by kernel_rfl) fun a w hF hM => ?_)
        refine wl (eP 9 (v0 := .bool (decide (1073741824 < aa))) (v := .bool false) hF (by kernel_rfl) (fun _ => by kernel_rfl) (bF hz2) fun a hF => ?_)
        refine sB 3 [(10, .bool false), (11, .bool false), (12, .pointer (some ⟨bb1, 1, none⟩))] hF (by kernel_rfl) fun a hF => ?_
        refine wl (eL 13 1 1 (v := .int .i64 l) hF hM (by kernel_rfl) rfl rfl (by kernel_rfl) (by kernel_rfl) fun a w hF hM => ?_)
        refine wl (eP 14 (v0 := .bool (decide (l < -1616904192))) (v := .bool false) hF (by kernel_rfl) (fun _ => by kernel_rfl) (bF hz3) fun a hF => ?_)
        refine sB 3 [(15, .bool false), (16, .bool false), (17, .pointer (some ⟨bb1, 1, none⟩))] hF (by kernel_rfl) fun a hF => ?_
        refine wl (eL 18 1 1 (v := .int .i64 l) hF hM (by kernel_rfl) rfl rfl (by kernel_rfl) (by kernel_rfl) fun a w hF hM => ?_)
        refine sB 2 [(19, .bool (decide (1125899906842624 < l))), (20, .bool (decide (1125899906842624 < l)))] hF (by kernel_rfl) fun a hF => ?_
        refine wpList_nil ?_
        refine hK3 _ _ ?_
        by_cases hz4 : 1125899906842624 < l
        · skip
          replace hF := hF.c hF (i := 19) (v := .bool true) rfl (bT hz4)
          replace hF := hF.c hF (i := 20) (v := .bool true) rfl (bT hz4)
          refine cT hF (by kernel_rfl) (by kernel_rfl) ?_
          refine wp_seq_k fun K7 hK7 => ?_
          refine wp_region_lit ?_
          refine sB 1 [(2, .int .i64 450)] hF (by kernel_rfl) fun a hF => ?_
          refine wpList_nil ?_
          refine hK7 _ _ ?_
          refine wp_ret ?_
          refine hR0 _ _ ?_
          refine ret_of hF hM (.tmp rfl (.nil)) ?_
          exact ⟨ret_int (by rw [stateE_eq]; omega), hM.bel⟩
        · skip
          replace hF := hF.c hF (i := 19) (v := .bool false) rfl (bF hz4)
          replace hF := hF.c hF (i := 20) (v := .bool false) rfl (bF hz4)
          refine cF hF (by kernel_rfl) (by kernel_rfl) ?_
          refine wp_skip ?_
          refine hK2 _ _ ?_
          refine wp_seq_k fun K8 hK8 => ?_
          refine wp_region_lit ?_
          refine sB 1 [(2, .int .i64 0)] hF (by kernel_rfl) fun a hF => ?_
          refine wpList_nil ?_
          refine hK8 _ _ ?_
          refine wp_ret ?_
          refine hR0 _ _ ?_
          refine ret_of hF hM (.tmp rfl (.nil)) ?_
          exact ⟨ret_int (by rw [stateE_eq]; omega), hM.bel⟩

theorem crStep_w (r p aa l at_ free size : Int) (w0 : World) :
    Calls Try.prog 20 #[.agg #[.int .i64 r, .int .i64 p], .agg #[.int .i64 aa, .int .i64 l], .int .i64 at_, .int .i64 free, .int .i64 size] w0 (Ret w0 (.tuple #[.int .i64 (cstS r p aa l at_ free size), .agg #[.int .i64 (cstA r p aa l at_ free size), .int .i64 (cstL r p aa l at_ free size)], .int .i64 (cstE r p aa l at_ free size)])) := by
  refine enterK 59 Try.func20 rfl rfl rfl ?_
  intro a hF Q0 hR0 hN0
  have hM := Mem.start w0
  refine wp_seq_k fun K1 hK1 => ?_
  refine wp_region_lit ?_
  refine wl (eN 5 1 (t := 23) (fun b => .pointer (some ⟨b, 0, none⟩)) #[.int .i64 r, .int .i64 p] hF hM (by kernel_rfl) (fun _ => by kernel_rfl) fun bb1 a w hF hM => ?_)
  refine wl (eN 6 2 (t := 40) (fun b => .pointer (some ⟨b, 0, none⟩)) #[.int .i64 aa, .int .i64 l] hF hM (by kernel_rfl) (fun _ => by kernel_rfl) fun bb2 a w hF hM => ?_)
  refine sB 1 [(10, .int .i64 0)] hF (by kernel_rfl) fun a hF => ?_
  refine wl (eN 11 3 (t := 40) (fun b => .pointer (some ⟨b, 0, none⟩)) #[.int .i64 0, .int .i64 0] hF hM (by kernel_rfl) (fun _ => by kernel_rfl) fun bb3 a w hF hM => ?_)
  refine sB 1 [(12, .int .i64 0)] hF (by kernel_rfl) fun a hF => ?_
  refine wpList_nil ?_
  refine hK1 _ _ ?_
  refine wp_seq_k fun K2 hK2 => ?_
  refine wp_seq_k fun K3 hK3 => ?_
  refine wp_region_lit ?_
  refine wl (eL 15 1 0 (v := .agg #[.int .i64 r, .int .i64 p]) hF hM (by kernel_rfl) rfl rfl (by kernel_rfl) (by kernel_rfl) fun a w hF hM => ?_)
  refine wl (eM 16 (v := .int .i64 (slopeE r p)) hF hM (by kernel_rfl) (yld_call (f := 16) (args := #[.agg #[.int .i64 r, .int .i64 p]]) hF (by kernel_rfl) (fun _ => by kernel_rfl) (fun w hM => crCheck_w r p w)) fun a w hF hM => ?_)
  refine sB 1 [(13, .int .i64 (slopeE r p))] hF (by kernel_rfl) fun a hF => ?_
  refine wpList_nil ?_
  refine hK3 _ _ ?_
  refine wp_seq_k fun K4 hK4 => ?_
  refine wp_region_lit ?_
  refine sB 2 [(17, .int .i64 (slopeE r p)), (18, .bool (!decide (slopeE r p = 0)))] hF (by kernel_rfl) fun a hF => ?_
  refine wpList_nil ?_
  refine hK4 _ _ ?_
  by_cases hz1 : slopeE r p = 0
  · skip
    have hz2 := slopeE_ok hz1
    replace hF := hF.c hF (i := 18) (v := .bool false) rfl (nT hz1)
    refine cF hF (by kernel_rfl) (by kernel_rfl) ?_
    refine wp_skip ?_
    refine hK2 _ _ ?_
    refine wp_seq_k fun K5 hK5 => ?_
    refine wp_seq_k fun K6 hK6 => ?_
    refine wp_region_lit ?_
    refine wl (eL 21 2 0 (v := .agg #[.int .i64 aa, .int .i64 l]) hF hM (by kernel_rfl) rfl rfl (by kernel_rfl) (by kernel_rfl) fun a w hF hM => ?_)
    refine wl (eM 22 (v := .int .i64 (stateE aa l)) hF hM (by kernel_rfl) (yld_call (f := 18) (args := #[.agg #[.int .i64 aa, .int .i64 l]]) hF (by kernel_rfl) (fun _ => by kernel_rfl) (fun w hM => crState_w aa l w)) fun a w hF hM => ?_)
    refine sB 1 [(14, .int .i64 (stateE aa l))] hF (by kernel_rfl) fun a hF => ?_
    refine wpList_nil ?_
    refine hK6 _ _ ?_
    refine wp_seq_k fun K7 hK7 => ?_
    refine wp_region_lit ?_
    refine sB 2 [(23, .int .i64 (stateE aa l)), (24, .bool (!decide (stateE aa l = 0)))] hF (by kernel_rfl) fun a hF => ?_
    refine wpList_nil ?_
    refine hK7 _ _ ?_
    by_cases hz3 : stateE aa l = 0
    · skip
      have hz4 := stateE_ok hz3
      replace hF := hF.c hF (i := 24) (v := .bool false) rfl (nT hz3)
      refine cF hF (by kernel_rfl) (by kernel_rfl) ?_
      refine wp_skip ?_
      refine hK5 _ _ ?_
      refine wp_seq_k fun K8 hK8 => ?_
      refine wp_seq_k fun K9 hK9 => ?_
      refine wp_region_lit ?_
      refine sB 1 [(27, .int .i64 at_)] hF (by kernel_rfl) fun a hF => ?_
      refine wl (sC (f := 27) (args := #[.int .i64 at_]) hF (by kernel_rfl) rfl (by decide) (by kernel_rfl) (fun _ => by kernel_rfl) ?_)
      refine enterK 9 Try.func27 rfl rfl rfl ?_
      intro a1 hF1 QR10 hR10 hNR10
      refine wp_seq_k fun K11 hK11 => ?_
      refine wp_region_lit ?_
      refine sB 1 [(2, .bool false)] hF1 (by kernel_rfl) fun a1 hF1 => ?_
      refine wpList_nil ?_
      refine hK11 _ _ ?_
      refine wp_seq_k fun K12 hK12 => ?_
      by_cases hz5 : 0 ≤ at_
      · skip
        refine wp_region_lit ?_
        refine sB 1 [(3, .int .i64 at_)] hF1 (by kernel_rfl) fun a1 hF1 => ?_
        refine wl (eP 4 (v0 := .bool (decide (0 ≤ at_))) (v := .bool true) hF1 (by kernel_rfl) (fun _ => by kernel_rfl) (bT hz5) fun a1 hF1 => ?_)
        refine sB 5 [(5, .bool true), (6, .int .i64 at_), (7, .bool (decide (at_ ≤ 1073741824))), (8, .bool (decide (at_ ≤ 1073741824))), (2, .bool (decide (at_ ≤ 1073741824)))] hF1 (by kernel_rfl) fun a1 hF1 => ?_
        refine wpList_nil ?_
        refine hK12 _ _ ?_
        refine wp_ret ?_
        refine hR10 _ _ ?_
        refine ret_of hF1 hM (.tmp rfl (.nil)) ⟨_, rfl, ?_⟩
        intro a hF
        refine sB 2 [(29, .bool (!decide (at_ ≤ 1073741824))), (30, .bool (!decide (at_ ≤ 1073741824)))] hF (by kernel_rfl) fun a hF => ?_
        by_cases hz6 : at_ ≤ 1073741824
        · skip
          replace hF := hF.c hF (i := 28) (v := .bool true) rfl (bT hz6)
          replace hF := hF.c hF (i := 29) (v := .bool false) rfl (nT hz6)
          replace hF := hF.c hF (i := 30) (v := .bool false) rfl (nT hz6)
          refine sB 1 [(31, .int .i64 free)] hF (by kernel_rfl) fun a hF => ?_
          refine wl (sC (f := 27) (args := #[.int .i64 free]) hF (by kernel_rfl) rfl (by decide) (by kernel_rfl) (fun _ => by kernel_rfl) ?_)
          refine enterK 9 Try.func27 rfl rfl rfl ?_
          intro a1 hF1 QR13 hR13 hNR13
          refine wp_seq_k fun K14 hK14 => ?_
          refine wp_region_lit ?_
          refine sB 1 [(2, .bool false)] hF1 (by kernel_rfl) fun a1 hF1 => ?_
          refine wpList_nil ?_
          refine hK14 _ _ ?_
          refine wp_seq_k fun K15 hK15 => ?_
          by_cases hz7 : 0 ≤ free
          · skip
            refine wp_region_lit ?_
            refine sB 1 [(3, .int .i64 free)] hF1 (by kernel_rfl) fun a1 hF1 => ?_
            refine wl (eP 4 (v0 := .bool (decide (0 ≤ free))) (v := .bool true) hF1 (by kernel_rfl) (fun _ => by kernel_rfl) (bT hz7) fun a1 hF1 => ?_)
            refine sB 5 [(5, .bool true), (6, .int .i64 free), (7, .bool (decide (free ≤ 1073741824))), (8, .bool (decide (free ≤ 1073741824))), (2, .bool (decide (free ≤ 1073741824)))] hF1 (by kernel_rfl) fun a1 hF1 => ?_
            refine wpList_nil ?_
            refine hK15 _ _ ?_
            refine wp_ret ?_
            refine hR13 _ _ ?_
            refine ret_of hF1 hM (.tmp rfl (.nil)) ⟨_, rfl, ?_⟩
            intro a hF
            refine sB 3 [(33, .bool (!decide (free ≤ 1073741824))), (34, .bool (!decide (free ≤ 1073741824))), (35, .bool (!decide (free ≤ 1073741824)))] hF (by kernel_rfl) fun a hF => ?_
            by_cases hz8 : free ≤ 1073741824
            · skip
              replace hF := hF.c hF (i := 32) (v := .bool true) rfl (bT hz8)
              replace hF := hF.c hF (i := 33) (v := .bool false) rfl (nT hz8)
              replace hF := hF.c hF (i := 34) (v := .bool false) rfl (nT hz8)
              replace hF := hF.c hF (i := 35) (v := .bool false) rfl (nT hz8)
              refine sB 4 [(36, .int .i64 size), (37, .bool (decide (size < 1))), (38, .bool (decide (size < 1))), (39, .bool (decide (size < 1)))] hF (by kernel_rfl) fun a hF => ?_
              by_cases hz9 : size < 1
              · skip
                replace hF := hF.c hF (i := 37) (v := .bool true) rfl (bT hz9)
                replace hF := hF.c hF (i := 38) (v := .bool true) rfl (bT hz9)
                replace hF := hF.c hF (i := 39) (v := .bool true) rfl (bT hz9)
                refine sB 3 [(40, undef), (41, undef), (42, .bool true)] hF (by kernel_rfl) fun a hF => ?_
                refine wpList_nil ?_
                refine hK9 _ _ ?_
                refine cT hF (by kernel_rfl) (by kernel_rfl) ?_
                refine wp_seq_k fun K16 hK16 => ?_
                refine wp_region_lit ?_
                refine sB 2 [(43, .agg #[.int .i64 0, .int .i64 0]), (10, .int .i64 0)] hF (by kernel_rfl) fun a hF => ?_
                refine wl (sStore (i := 3) (off := 0) (cs' := #[.int .i64 0, .int .i64 0]) hF hM (by kernel_rfl) rfl rfl (by kernel_rfl) (by kernel_rfl) rfl (by kernel_rfl) fun w hM => ?_)
                refine sB 1 [(12, .int .i64 2)] hF (by kernel_rfl) fun a hF => ?_
                refine wpList_nil ?_
                refine hK16 _ _ ?_
                refine wp_ret ?_
                refine hR0 _ _ ?_
                refine ret_of hF hM (.tmp rfl (.cell (i := 3) rfl rfl (v := .agg #[.int .i64 0, .int .i64 0]) (by kernel_rfl) (.tmp rfl (.nil)))) ?_
                have he : cstE r p aa l at_ free size = 2 := by unfold cstE; rw [if_pos hz1, if_pos hz3, if_neg (by omega)]
                have hn : ¬ cstE r p aa l at_ free size = 0 := by rw [he]; first | omega | assumption
                refine ⟨ret_eq ?_, hM.bel⟩
                unfold cstS cstA cstL; rw [if_neg hn, if_neg hn, if_neg hn, he]; rfl
              · skip
                replace hF := hF.c hF (i := 37) (v := .bool false) rfl (bF hz9)
                replace hF := hF.c hF (i := 38) (v := .bool false) rfl (bF hz9)
                replace hF := hF.c hF (i := 39) (v := .bool false) rfl (bF hz9)
                refine sB 3 [(40, .int .i64 size), (41, .bool (decide (1542 < size))), (42, .bool (decide (1542 < size)))] hF (by kernel_rfl) fun a hF => ?_
                refine wpList_nil ?_
                refine hK9 _ _ ?_
                by_cases hz10 : 1542 < size
                · skip
                  replace hF := hF.c hF (i := 41) (v := .bool true) rfl (bT hz10)
                  replace hF := hF.c hF (i := 42) (v := .bool true) rfl (bT hz10)
                  refine cT hF (by kernel_rfl) (by kernel_rfl) ?_
                  refine wp_seq_k fun K17 hK17 => ?_
                  refine wp_region_lit ?_
                  refine sB 2 [(43, .agg #[.int .i64 0, .int .i64 0]), (10, .int .i64 0)] hF (by kernel_rfl) fun a hF => ?_
                  refine wl (sStore (i := 3) (off := 0) (cs' := #[.int .i64 0, .int .i64 0]) hF hM (by kernel_rfl) rfl rfl (by kernel_rfl) (by kernel_rfl) rfl (by kernel_rfl) fun w hM => ?_)
                  refine sB 1 [(12, .int .i64 2)] hF (by kernel_rfl) fun a hF => ?_
                  refine wpList_nil ?_
                  refine hK17 _ _ ?_
                  refine wp_ret ?_
                  refine hR0 _ _ ?_
                  refine ret_of hF hM (.tmp rfl (.cell (i := 3) rfl rfl (v := .agg #[.int .i64 0, .int .i64 0]) (by kernel_rfl) (.tmp rfl (.nil)))) ?_
                  have he : cstE r p aa l at_ free size = 2 := by unfold cstE; rw [if_pos hz1, if_pos hz3, if_neg (by omega)]
                  have hn : ¬ cstE r p aa l at_ free size = 0 := by rw [he]; first | omega | assumption
                  refine ⟨ret_eq ?_, hM.bel⟩
                  unfold cstS cstA cstL; rw [if_neg hn, if_neg hn, if_neg hn, he]; rfl
                · skip
                  replace hF := hF.c hF (i := 41) (v := .bool false) rfl (bF hz10)
                  replace hF := hF.c hF (i := 42) (v := .bool false) rfl (bF hz10)
                  refine cF hF (by kernel_rfl) (by kernel_rfl) ?_
                  refine wp_skip ?_
                  refine hK8 _ _ ?_
                  refine wp_seq_k fun K18 hK18 => ?_
                  refine wp_region_lit ?_
                  refine wl (eL 45 1 0 (v := .agg #[.int .i64 r, .int .i64 p]) hF hM (by kernel_rfl) rfl rfl (by kernel_rfl) (by kernel_rfl) fun a w hF hM => ?_)
                  refine wl (eL 46 2 0 (v := .agg #[.int .i64 aa, .int .i64 l]) hF hM (by kernel_rfl) rfl rfl (by kernel_rfl) (by kernel_rfl) fun a w hF hM => ?_)
                  refine sB 3 [(47, .int .i64 at_), (48, .int .i64 free), (49, .int .i64 size)] hF (by kernel_rfl) fun a hF => ?_
                  refine wl (sC (f := 29) (args := #[.agg #[.int .i64 r, .int .i64 p], .agg #[.int .i64 aa, .int .i64 l], .int .i64 at_, .int .i64 free, .int .i64 size]) hF (by kernel_rfl) rfl (by decide) (by kernel_rfl) (fun _ => by kernel_rfl) ?_)
                  refine enterK 38 Try.func29 rfl rfl rfl ?_
                  intro a1 hF1 QR19 hR19 hNR19
                  refine wp_seq_k fun K20 hK20 => ?_
                  refine wp_region_lit ?_
                  refine wl (eN 5 4 (t := 23) (fun b => .pointer (some ⟨b, 0, none⟩)) #[.int .i64 r, .int .i64 p] hF1 hM (by kernel_rfl) (fun _ => by kernel_rfl) fun bb4 a1 w hF1 hM => ?_)
                  refine wl (eN 6 5 (t := 40) (fun b => .pointer (some ⟨b, 0, none⟩)) #[.int .i64 aa, .int .i64 l] hF1 hM (by kernel_rfl) (fun _ => by kernel_rfl) fun bb5 a1 w hF1 hM => ?_)
                  refine sB 1 [(10, .int .i64 0)] hF1 (by kernel_rfl) fun a1 hF1 => ?_
                  refine wl (eN 11 6 (t := 40) (fun b => .pointer (some ⟨b, 0, none⟩)) #[.int .i64 0, .int .i64 0] hF1 hM (by kernel_rfl) (fun _ => by kernel_rfl) fun bb6 a1 w hF1 hM => ?_)
                  refine wpList_nil ?_
                  refine hK20 _ _ ?_
                  refine wp_seq_k fun K21 hK21 => ?_
                  refine wp_region_lit ?_
                  refine wl (eL 17 4 0 (v := .agg #[.int .i64 r, .int .i64 p]) hF1 hM (by kernel_rfl) rfl rfl (by kernel_rfl) (by kernel_rfl) fun a1 w hF1 hM => ?_)
                  refine wl (eL 18 5 0 (v := .agg #[.int .i64 aa, .int .i64 l]) hF1 hM (by kernel_rfl) rfl rfl (by kernel_rfl) (by kernel_rfl) fun a1 w hF1 hM => ?_)
                  refine sB 1 [(19, .agg #[.int .i64 r, .int .i64 p, .int .i64 aa, .int .i64 l])] hF1 (by kernel_rfl) fun a1 hF1 => ?_
                  refine wl (eN 12 7 (t := 83) (fun b => .pointer (some ⟨b, 0, none⟩)) #[.int .i64 0, .int .i64 0, .int .i64 0, .int .i64 0] hF1 hM (by kernel_rfl) (fun _ => by kernel_rfl) fun bb7 a1 w hF1 hM => ?_)
                  refine wl (sStore (i := 7) (off := 0) (cs' := #[.int .i64 r, .int .i64 p, .int .i64 aa, .int .i64 l]) hF1 hM (by kernel_rfl) rfl rfl (by kernel_rfl) (by kernel_rfl) rfl (by kernel_rfl) fun w hM => ?_)
                  refine wpList_nil ?_
                  refine hK21 _ _ ?_
                  refine wp_seq_k fun K22 hK22 => ?_
                  refine wp_region_lit ?_
                  refine sB 6 [(20, .func (.func 38) #[.pointer (some ⟨bb7, 0, none⟩)] #[]), (21, .func (.func 39) #[.pointer (some ⟨bb7, 0, none⟩)] #[]), (22, .func (.func 40) #[.pointer (some ⟨bb7, 0, none⟩)] #[]), (13, .func (.func 38) #[.pointer (some ⟨bb7, 0, none⟩)] #[]), (14, .func (.func 39) #[.pointer (some ⟨bb7, 0, none⟩)] #[]), (15, .func (.func 40) #[.pointer (some ⟨bb7, 0, none⟩)] #[])] hF1 (by kernel_rfl) fun a1 hF1 => ?_
                  refine wpList_nil ?_
                  refine hK22 _ _ ?_
                  refine wp_seq_k fun K23 hK23 => ?_
                  refine wp_region_lit ?_
                  refine sB 2 [(23, .func (.func 38) #[.pointer (some ⟨bb7, 0, none⟩)] #[]), (24, .int .i64 at_)] hF1 (by kernel_rfl) fun a1 hF1 => ?_
                  refine wl (sC (f := 38) (args := #[.pointer (some ⟨bb7, 0, none⟩), .int .i64 at_]) hF1 (by kernel_rfl) rfl (by decide) (by kernel_rfl) (fun _ => by kernel_rfl) ?_)
                  refine enterK 40 Try.func38 rfl rfl rfl ?_
                  intro a2 hF2 QR24 hR24 hNR24
                  refine wp_seq_k fun K25 hK25 => ?_
                  refine wp_seq_k fun K26 hK26 => ?_
                  refine wp_region_lit ?_
                  refine sB 5 [(4, .int .i64 at_), (5, .pointer (some ⟨bb7, 0, none⟩)), (6, .pointer (some ⟨bb7, 0, none⟩)), (7, .pointer (some ⟨bb7, 2, none⟩)), (8, .pointer (some ⟨bb7, 2, none⟩))] hF2 (by kernel_rfl) fun a2 hF2 => ?_
                  refine wl (eL 9 7 2 (v := .int .i64 aa) hF2 hM (by kernel_rfl) rfl rfl (by kernel_rfl) (by kernel_rfl) fun a2 w hF2 hM => ?_)
                  refine sB 1 [(10, .bool (decide (at_ ≤ aa)))] hF2 (by kernel_rfl) fun a2 hF2 => ?_
                  refine wpList_nil ?_
                  refine hK26 _ _ ?_
                  by_cases hz11 : at_ ≤ aa
                  · skip
                    replace hF2 := hF2.c hF2 (i := 10) (v := .bool true) rfl (bT hz11)
                    refine cT hF2 (by kernel_rfl) (by kernel_rfl) ?_
                    refine wp_ret ?_
                    refine hR24 _ _ ?_
                    refine ret_of hF2 hM (.nil) ⟨_, rfl, ?_⟩
                    intro a1 hF1
                    refine wpList_nil ?_
                    refine hK23 _ _ ?_
                    refine wp_seq_k fun K27 hK27 => ?_
                    refine wp_region_lit ?_
                    refine sB 1 [(26, .int .i64 free)] hF1 (by kernel_rfl) fun a1 hF1 => ?_
                    refine wl (sC (f := 41) (args := #[.pointer (some ⟨bb7, 0, none⟩)]) hF1 (by kernel_rfl) rfl (by decide) (by kernel_rfl) (fun _ => by kernel_rfl) ?_)
                    refine enterK 31 Try.func41 rfl rfl rfl ?_
                    intro a2 hF2 QR28 hR28 hNR28
                    refine wp_seq_k fun K29 hK29 => ?_
                    refine wp_region_lit ?_
                    refine sB 1 [(2, .int .i64 0)] hF2 (by kernel_rfl) fun a2 hF2 => ?_
                    refine wpList_nil ?_
                    refine hK29 _ _ ?_
                    refine wp_seq_k fun K30 hK30 => ?_
                    refine wp_region_lit ?_
                    refine sB 4 [(4, .pointer (some ⟨bb7, 0, none⟩)), (5, .pointer (some ⟨bb7, 0, none⟩)), (6, .pointer (some ⟨bb7, 2, none⟩)), (7, .pointer (some ⟨bb7, 3, none⟩))] hF2 (by kernel_rfl) fun a2 hF2 => ?_
                    refine wl (eL 8 7 3 (v := .int .i64 l) hF2 hM (by kernel_rfl) rfl rfl (by kernel_rfl) (by kernel_rfl) fun a2 w hF2 hM => ?_)
                    refine wl (eP 9 (v0 := .int .i64 (IntKind.i64.wrap (0 - l))) (v := .int .i64 (-l)) hF2 (by kernel_rfl) (fun _ => by kernel_rfl) (vi (by rw [Int.zero_sub]; exact (w64 (by omega)))) fun a2 hF2 => ?_)
                    refine wl (eP 10 (v0 := .int .i64 (if -l > 0 then -l else 0)) (v := .int .i64 (max 0 (-l))) hF2 (by kernel_rfl) (fun _ => by kernel_rfl) (vi (max_if _ _)) fun a2 hF2 => ?_)
                    refine sB 1 [(3, .int .i64 (max 0 (-l)))] hF2 (by kernel_rfl) fun a2 hF2 => ?_
                    refine wpList_nil ?_
                    refine hK30 _ _ ?_
                    refine wp_seq_k fun K31 hK31 => ?_
                    refine rQ hM (by kernel_rfl) (by kernel_rfl) ?_
                    refine eQ 11 (v0 := .pointer (some ⟨bb7, 0, none⟩)) (v := .pointer (some ⟨bb7, 0, none⟩)) hF2 (by kernel_rfl) (fun _ => by kernel_rfl) rfl fun a2 hF2 => ?_
                    refine eQ 12 (v0 := .pointer (some ⟨bb7, 0, none⟩)) (v := .pointer (some ⟨bb7, 0, none⟩)) hF2 (by kernel_rfl) (fun _ => by kernel_rfl) rfl fun a2 hF2 => ?_
                    refine eQ 13 (v0 := .pointer (some ⟨bb7, 2, none⟩)) (v := .pointer (some ⟨bb7, 2, none⟩)) hF2 (by kernel_rfl) (fun _ => by kernel_rfl) rfl fun a2 hF2 => ?_
                    refine eQ 14 (v0 := .pointer (some ⟨bb7, 2, none⟩)) (v := .pointer (some ⟨bb7, 2, none⟩)) hF2 (by kernel_rfl) (fun _ => by kernel_rfl) rfl fun a2 hF2 => ?_
                    refine eQL 15 7 2 (v := .int .i64 aa) hF2 (by kernel_rfl) rfl rfl (by kernel_rfl) (by kernel_rfl) fun a2 hF2 => ?_
                    refine eQ 16 (v0 := .int .i64 (max 0 (-l))) (v := .int .i64 (max 0 (-l))) hF2 (by kernel_rfl) (fun _ => by kernel_rfl) rfl fun a2 hF2 => ?_
                    refine eQ 17 (v0 := .pointer (some ⟨bb7, 0, none⟩)) (v := .pointer (some ⟨bb7, 0, none⟩)) hF2 (by kernel_rfl) (fun _ => by kernel_rfl) rfl fun a2 hF2 => ?_
                    refine eQ 18 (v0 := .pointer (some ⟨bb7, 0, none⟩)) (v := .pointer (some ⟨bb7, 0, none⟩)) hF2 (by kernel_rfl) (fun _ => by kernel_rfl) rfl fun a2 hF2 => ?_
                    refine eQ 19 (v0 := .pointer (some ⟨bb7, 0, none⟩)) (v := .pointer (some ⟨bb7, 0, none⟩)) hF2 (by kernel_rfl) (fun _ => by kernel_rfl) rfl fun a2 hF2 => ?_
                    refine eQ 20 (v0 := .pointer (some ⟨bb7, 0, none⟩)) (v := .pointer (some ⟨bb7, 0, none⟩)) hF2 (by kernel_rfl) (fun _ => by kernel_rfl) rfl fun a2 hF2 => ?_
                    refine eQL 21 7 0 (v := .int .i64 r) hF2 (by kernel_rfl) rfl rfl (by kernel_rfl) (by kernel_rfl) fun a2 hF2 => ?_
                    refine eQ 22 (v0 := .int .i64 (IntKind.i64.wrap (max 0 (-l) + r))) (v := .int .i64 (max 0 (-l) + r)) hF2 (by kernel_rfl) (fun _ => by kernel_rfl) (wi (by omega)) fun a2 hF2 => ?_
                    refine eQ 23 (v0 := .int .i64 (IntKind.i64.wrap (max 0 (-l) + r - 1))) (v := .int .i64 (max 0 (-l) + r - 1)) hF2 (by kernel_rfl) (fun _ => by kernel_rfl) (wi (by omega)) fun a2 hF2 => ?_
                    refine eQ 24 (v0 := .pointer (some ⟨bb7, 0, none⟩)) (v := .pointer (some ⟨bb7, 0, none⟩)) hF2 (by kernel_rfl) (fun _ => by kernel_rfl) rfl fun a2 hF2 => ?_
                    refine eQ 25 (v0 := .pointer (some ⟨bb7, 0, none⟩)) (v := .pointer (some ⟨bb7, 0, none⟩)) hF2 (by kernel_rfl) (fun _ => by kernel_rfl) rfl fun a2 hF2 => ?_
                    refine eQ 26 (v0 := .pointer (some ⟨bb7, 0, none⟩)) (v := .pointer (some ⟨bb7, 0, none⟩)) hF2 (by kernel_rfl) (fun _ => by kernel_rfl) rfl fun a2 hF2 => ?_
                    refine eQ 27 (v0 := .pointer (some ⟨bb7, 0, none⟩)) (v := .pointer (some ⟨bb7, 0, none⟩)) hF2 (by kernel_rfl) (fun _ => by kernel_rfl) rfl fun a2 hF2 => ?_
                    refine eQL 28 7 0 (v := .int .i64 r) hF2 (by kernel_rfl) rfl rfl (by kernel_rfl) (by kernel_rfl) fun a2 hF2 => ?_
                    refine eQ2 29 (v := .int .i64 ((max 0 (-l) + r - 1) / r)) hF2 (by kernel_rfl) (yld_quo (max 0 (-l) + r - 1) r hF2 rfl (by kernel_rfl) (by kernel_rfl) (by kernel_rfl) (by omega) (qpos_i64 (by omega) (by omega) (by omega))) fun a2 hF2 => ?_
                    have := ediv_le_self_of (p := max 0 (-l) + r - 1) (q := r) (by omega) (by omega)
                    refine eQ 30 (v0 := .int .i64 (IntKind.i64.wrap (aa + (max 0 (-l) + r - 1) / r))) (v := .int .i64 (aa + (max 0 (-l) + r - 1) / r)) hF2 (by kernel_rfl) (fun _ => by kernel_rfl) (wi (by omega)) fun a2 hF2 => ?_
                    refine eQ 2 (v0 := .int .i64 (aa + (max 0 (-l) + r - 1) / r)) (v := .int .i64 (aa + (max 0 (-l) + r - 1) / r)) hF2 (by kernel_rfl) (fun _ => by kernel_rfl) rfl fun a2 hF2 => ?_
                    refine wpQuiet_nil ?_
                    intro w hM
                    refine hK31 _ _ ?_
                    refine wp_ret ?_
                    refine hR28 _ _ ?_
                    refine ret_of hF2 hM (.tmp rfl (.nil)) ⟨_, rfl, ?_⟩
                    intro a1 hF1
                    refine wl (eP 28 (v0 := .int .i64 (if aa + (max 0 (-l) + r - 1) / r > free then aa + (max 0 (-l) + r - 1) / r else free)) (v := .int .i64 (max free (aa + (max 0 (-l) + r - 1) / r))) hF1 (by kernel_rfl) (fun _ => by kernel_rfl) (vi (max_if _ _)) fun a1 hF1 => ?_)
                    refine sB 1 [(16, .int .i64 (max free (aa + (max 0 (-l) + r - 1) / r)))] hF1 (by kernel_rfl) fun a1 hF1 => ?_
                    refine wpList_nil ?_
                    refine hK27 _ _ ?_
                    refine wp_seq_k fun K32 hK32 => ?_
                    refine wp_region_lit ?_
                    refine sB 2 [(29, .func (.func 39) #[.pointer (some ⟨bb7, 0, none⟩)] #[]), (30, .int .i64 (max free (aa + (max 0 (-l) + r - 1) / r)))] hF1 (by kernel_rfl) fun a1 hF1 => ?_
                    refine wl (sC (f := 39) (args := #[.pointer (some ⟨bb7, 0, none⟩), .int .i64 (max free (aa + (max 0 (-l) + r - 1) / r))]) hF1 (by kernel_rfl) rfl (by decide) (by kernel_rfl) (fun _ => by kernel_rfl) ?_)
                    refine enterK 31 Try.func39 rfl rfl rfl ?_
                    intro a2 hF2 QR33 hR33 hNR33
                    refine wp_seq_k fun K34 hK34 => ?_
                    refine rT 22 (by kernel_rfl) (by kernel_rfl) hM.drew ?_
                    refine eQ 4 (v0 := .pointer (some ⟨bb7, 0, none⟩)) (v := .pointer (some ⟨bb7, 0, none⟩)) hF2 (by kernel_rfl) (fun _ => by kernel_rfl) rfl fun a2 hF2 => ?_
                    refine eQ 5 (v0 := .pointer (some ⟨bb7, 0, none⟩)) (v := .pointer (some ⟨bb7, 0, none⟩)) hF2 (by kernel_rfl) (fun _ => by kernel_rfl) rfl fun a2 hF2 => ?_
                    refine eQ 6 (v0 := .pointer (some ⟨bb7, 2, none⟩)) (v := .pointer (some ⟨bb7, 2, none⟩)) hF2 (by kernel_rfl) (fun _ => by kernel_rfl) rfl fun a2 hF2 => ?_
                    refine eQ 7 (v0 := .pointer (some ⟨bb7, 3, none⟩)) (v := .pointer (some ⟨bb7, 3, none⟩)) hF2 (by kernel_rfl) (fun _ => by kernel_rfl) rfl fun a2 hF2 => ?_
                    refine eQL 8 7 3 (v := .int .i64 l) hF2 (by kernel_rfl) rfl rfl (by kernel_rfl) (by kernel_rfl) fun a2 hF2 => ?_
                    refine eQ 9 (v0 := .pointer (some ⟨bb7, 0, none⟩)) (v := .pointer (some ⟨bb7, 0, none⟩)) hF2 (by kernel_rfl) (fun _ => by kernel_rfl) rfl fun a2 hF2 => ?_
                    refine eQ 10 (v0 := .pointer (some ⟨bb7, 0, none⟩)) (v := .pointer (some ⟨bb7, 0, none⟩)) hF2 (by kernel_rfl) (fun _ => by kernel_rfl) rfl fun a2 hF2 => ?_
                    refine eQ 11 (v0 := .pointer (some ⟨bb7, 0, none⟩)) (v := .pointer (some ⟨bb7, 0, none⟩)) hF2 (by kernel_rfl) (fun _ => by kernel_rfl) rfl fun a2 hF2 => ?_
                    refine eQ 12 (v0 := .pointer (some ⟨bb7, 0, none⟩)) (v := .pointer (some ⟨bb7, 0, none⟩)) hF2 (by kernel_rfl) (fun _ => by kernel_rfl) rfl fun a2 hF2 => ?_
                    refine eQL 13 7 0 (v := .int .i64 r) hF2 (by kernel_rfl) rfl rfl (by kernel_rfl) (by kernel_rfl) fun a2 hF2 => ?_
                    refine eQ 14 (v0 := .int .i64 (max free (aa + (max 0 (-l) + r - 1) / r))) (v := .int .i64 (max free (aa + (max 0 (-l) + r - 1) / r))) hF2 (by kernel_rfl) (fun _ => by kernel_rfl) rfl fun a2 hF2 => ?_
                    refine eQ 15 (v0 := .pointer (some ⟨bb7, 0, none⟩)) (v := .pointer (some ⟨bb7, 0, none⟩)) hF2 (by kernel_rfl) (fun _ => by kernel_rfl) rfl fun a2 hF2 => ?_
                    refine eQ 16 (v0 := .pointer (some ⟨bb7, 0, none⟩)) (v := .pointer (some ⟨bb7, 0, none⟩)) hF2 (by kernel_rfl) (fun _ => by kernel_rfl) rfl fun a2 hF2 => ?_
                    refine eQ 17 (v0 := .pointer (some ⟨bb7, 2, none⟩)) (v := .pointer (some ⟨bb7, 2, none⟩)) hF2 (by kernel_rfl) (fun _ => by kernel_rfl) rfl fun a2 hF2 => ?_
                    refine eQ 18 (v0 := .pointer (some ⟨bb7, 2, none⟩)) (v := .pointer (some ⟨bb7, 2, none⟩)) hF2 (by kernel_rfl) (fun _ => by kernel_rfl) rfl fun a2 hF2 => ?_
                    refine eQL 19 7 2 (v := .int .i64 aa) hF2 (by kernel_rfl) rfl rfl (by kernel_rfl) (by kernel_rfl) fun a2 hF2 => ?_
                    refine eQ 20 (v0 := .int .i64 (IntKind.i64.wrap (max free (aa + (max 0 (-l) + r - 1) / r) - aa))) (v := .int .i64 (max free (aa + (max 0 (-l) + r - 1) / r) - aa)) hF2 (by kernel_rfl) (fun _ => by kernel_rfl) (wi (by omega)) fun a2 hF2 => ?_
                    have hz12 : 0 ≤ r * (max free (aa + (max 0 (-l) + r - 1) / r) - aa) ∧ r * (max free (aa + (max 0 (-l) + r - 1) / r) - aa) ≤ 2822443654709250 := mul_bd (1) (1048575) (0) (2691694590) (by omega) (by omega) (by omega) (by omega) (by decide)
                    refine eQ 21 (v0 := .int .i64 (IntKind.i64.wrap (r * (max free (aa + (max 0 (-l) + r - 1) / r) - aa)))) (v := .int .i64 (r * (max free (aa + (max 0 (-l) + r - 1) / r) - aa))) hF2 (by kernel_rfl) (fun _ => by kernel_rfl) (wi (by omega)) fun a2 hF2 => ?_
                    refine eQ 22 (v0 := .int .i64 (IntKind.i64.wrap (l + r * (max free (aa + (max 0 (-l) + r - 1) / r) - aa)))) (v := .int .i64 (l + r * (max free (aa + (max 0 (-l) + r - 1) / r) - aa))) hF2 (by kernel_rfl) (fun _ => by kernel_rfl) (wi (by omega)) fun a2 hF2 => ?_
                    refine eQ 23 (v0 := .pointer (some ⟨bb7, 0, none⟩)) (v := .pointer (some ⟨bb7, 0, none⟩)) hF2 (by kernel_rfl) (fun _ => by kernel_rfl) rfl fun a2 hF2 => ?_
                    refine eQ 24 (v0 := .pointer (some ⟨bb7, 2, none⟩)) (v := .pointer (some ⟨bb7, 2, none⟩)) hF2 (by kernel_rfl) (fun _ => by kernel_rfl) rfl fun a2 hF2 => ?_
                    refine eQ 25 (v0 := .pointer (some ⟨bb7, 3, none⟩)) (v := .pointer (some ⟨bb7, 3, none⟩)) hF2 (by kernel_rfl) (fun _ => by kernel_rfl) rfl fun a2 hF2 => ?_
                    refine wpQuiet_nil ?_
                    intro w hM
                    refine wl (sStore (i := 7) (off := 3) (cs' := #[.int .i64 r, .int .i64 p, .int .i64 aa, .int .i64 (l + r * (max free (aa + (max 0 (-l) + r - 1) / r) - aa))]) hF2 hM (by kernel_rfl) rfl rfl (by kernel_rfl) (by kernel_rfl) rfl (by kernel_rfl) fun w hM => ?_)
                    refine wpList_nil ?_
                    refine hK34 _ _ ?_
                    refine wp_region_lit ?_
                    refine sB 5 [(26, .pointer (some ⟨bb7, 0, none⟩)), (27, .int .i64 (max free (aa + (max 0 (-l) + r - 1) / r))), (28, .pointer (some ⟨bb7, 0, none⟩)), (29, .pointer (some ⟨bb7, 2, none⟩)), (30, .pointer (some ⟨bb7, 2, none⟩))] hF2 (by kernel_rfl) fun a2 hF2 => ?_
                    refine wl (sStore (i := 7) (off := 2) (cs' := #[.int .i64 r, .int .i64 p, .int .i64 (max free (aa + (max 0 (-l) + r - 1) / r)), .int .i64 (l + r * (max free (aa + (max 0 (-l) + r - 1) / r) - aa))]) hF2 hM (by kernel_rfl) rfl rfl (by kernel_rfl) (by kernel_rfl) rfl (by kernel_rfl) fun w hM => ?_)
                    refine wpList_nil ?_
                    refine hNR33 _ _ ?_
                    refine ret_ofN hF2 hM (.nil) ⟨_, rfl, ?_⟩
                    intro a1 hF1
                    refine wpList_nil ?_
                    refine hK32 _ _ ?_
                    refine wp_seq_k fun K35 hK35 => ?_
                    refine wp_region_lit ?_
                    refine sB 2 [(32, .func (.func 40) #[.pointer (some ⟨bb7, 0, none⟩)] #[]), (33, .int .i64 size)] hF1 (by kernel_rfl) fun a1 hF1 => ?_
                    refine wl (sC (f := 40) (args := #[.pointer (some ⟨bb7, 0, none⟩), .int .i64 size]) hF1 (by kernel_rfl) rfl (by decide) (by kernel_rfl) (fun _ => by kernel_rfl) ?_)
                    refine enterK 43 Try.func40 rfl rfl rfl ?_
                    intro a2 hF2 QR36 hR36 hNR36
                    refine wp_seq_k fun K37 hK37 => ?_
                    refine rT 23 (by kernel_rfl) (by kernel_rfl) hM.drew ?_
                    refine eQ 4 (v0 := .pointer (some ⟨bb7, 0, none⟩)) (v := .pointer (some ⟨bb7, 0, none⟩)) hF2 (by kernel_rfl) (fun _ => by kernel_rfl) rfl fun a2 hF2 => ?_
                    refine eQ 5 (v0 := .pointer (some ⟨bb7, 0, none⟩)) (v := .pointer (some ⟨bb7, 0, none⟩)) hF2 (by kernel_rfl) (fun _ => by kernel_rfl) rfl fun a2 hF2 => ?_
                    refine eQ 6 (v0 := .pointer (some ⟨bb7, 2, none⟩)) (v := .pointer (some ⟨bb7, 2, none⟩)) hF2 (by kernel_rfl) (fun _ => by kernel_rfl) rfl fun a2 hF2 => ?_
                    refine eQ 7 (v0 := .pointer (some ⟨bb7, 3, none⟩)) (v := .pointer (some ⟨bb7, 3, none⟩)) hF2 (by kernel_rfl) (fun _ => by kernel_rfl) rfl fun a2 hF2 => ?_
                    refine eQL 8 7 3 (v := .int .i64 (l + r * (max free (aa + (max 0 (-l) + r - 1) / r) - aa))) hF2 (by kernel_rfl) rfl rfl (by kernel_rfl) (by kernel_rfl) fun a2 hF2 => ?_
                    refine eQ 9 (v0 := .pointer (some ⟨bb7, 0, none⟩)) (v := .pointer (some ⟨bb7, 0, none⟩)) hF2 (by kernel_rfl) (fun _ => by kernel_rfl) rfl fun a2 hF2 => ?_
                    refine eQ 10 (v0 := .pointer (some ⟨bb7, 0, none⟩)) (v := .pointer (some ⟨bb7, 0, none⟩)) hF2 (by kernel_rfl) (fun _ => by kernel_rfl) rfl fun a2 hF2 => ?_
                    refine eQ 11 (v0 := .pointer (some ⟨bb7, 0, none⟩)) (v := .pointer (some ⟨bb7, 0, none⟩)) hF2 (by kernel_rfl) (fun _ => by kernel_rfl) rfl fun a2 hF2 => ?_
                    refine eQ 12 (v0 := .pointer (some ⟨bb7, 0, none⟩)) (v := .pointer (some ⟨bb7, 0, none⟩)) hF2 (by kernel_rfl) (fun _ => by kernel_rfl) rfl fun a2 hF2 => ?_
                    refine eQL 13 7 0 (v := .int .i64 r) hF2 (by kernel_rfl) rfl rfl (by kernel_rfl) (by kernel_rfl) fun a2 hF2 => ?_
                    refine eQ 14 (v0 := .pointer (some ⟨bb7, 0, none⟩)) (v := .pointer (some ⟨bb7, 0, none⟩)) hF2 (by kernel_rfl) (fun _ => by kernel_rfl) rfl fun a2 hF2 => ?_
                    refine eQ 15 (v0 := .pointer (some ⟨bb7, 0, none⟩)) (v := .pointer (some ⟨bb7, 0, none⟩)) hF2 (by kernel_rfl) (fun _ => by kernel_rfl) rfl fun a2 hF2 => ?_
                    refine eQ 16 (v0 := .pointer (some ⟨bb7, 0, none⟩)) (v := .pointer (some ⟨bb7, 0, none⟩)) hF2 (by kernel_rfl) (fun _ => by kernel_rfl) rfl fun a2 hF2 => ?_
                    refine eQ 17 (v0 := .pointer (some ⟨bb7, 1, none⟩)) (v := .pointer (some ⟨bb7, 1, none⟩)) hF2 (by kernel_rfl) (fun _ => by kernel_rfl) rfl fun a2 hF2 => ?_
                    refine eQL 18 7 1 (v := .int .i64 p) hF2 (by kernel_rfl) rfl rfl (by kernel_rfl) (by kernel_rfl) fun a2 hF2 => ?_
                    have hz13 : 1 ≤ r * p ∧ r * p ≤ 1048575000 := mul_bd (1) (1048575) (1) (1000) (by omega) (by omega) (by omega) (by omega) (by decide)
                    refine eQ 19 (v0 := .int .i64 (IntKind.i64.wrap (r * p))) (v := .int .i64 (r * p)) hF2 (by kernel_rfl) (fun _ => by kernel_rfl) (wi (by omega)) fun a2 hF2 => ?_
                    refine eQ 20 (v0 := .int .i64 (IntKind.i64.wrap (r * p - 1048576))) (v := .int .i64 (r * p - 1048576)) hF2 (by kernel_rfl) (fun _ => by kernel_rfl) (wi (by omega)) fun a2 hF2 => ?_
                    refine eQ 21 (v0 := .int .i64 size) (v := .int .i64 size) hF2 (by kernel_rfl) (fun _ => by kernel_rfl) rfl fun a2 hF2 => ?_
                    have hz14 : -1616902650 ≤ (r * p - 1048576) * size ∧ (r * p - 1048576) * size ≤ -1 := mul_bd (-1048575) (-1) (1) (1542) (by omega) (by omega) (by omega) (by omega) (by decide)
                    refine eQ 22 (v0 := .int .i64 (IntKind.i64.wrap ((r * p - 1048576) * size))) (v := .int .i64 ((r * p - 1048576) * size)) hF2 (by kernel_rfl) (fun _ => by kernel_rfl) (wi (by omega)) fun a2 hF2 => ?_
                    refine eQ 23 (v0 := .int .i64 (IntKind.i64.wrap (l + r * (max free (aa + (max 0 (-l) + r - 1) / r) - aa) + (r * p - 1048576) * size))) (v := .int .i64 (l + r * (max free (aa + (max 0 (-l) + r - 1) / r) - aa) + (r * p - 1048576) * size)) hF2 (by kernel_rfl) (fun _ => by kernel_rfl) (wi (by omega)) fun a2 hF2 => ?_
                    refine eQ 24 (v0 := .pointer (some ⟨bb7, 0, none⟩)) (v := .pointer (some ⟨bb7, 0, none⟩)) hF2 (by kernel_rfl) (fun _ => by kernel_rfl) rfl fun a2 hF2 => ?_
                    refine eQ 25 (v0 := .pointer (some ⟨bb7, 2, none⟩)) (v := .pointer (some ⟨bb7, 2, none⟩)) hF2 (by kernel_rfl) (fun _ => by kernel_rfl) rfl fun a2 hF2 => ?_
                    refine eQ 26 (v0 := .pointer (some ⟨bb7, 3, none⟩)) (v := .pointer (some ⟨bb7, 3, none⟩)) hF2 (by kernel_rfl) (fun _ => by kernel_rfl) rfl fun a2 hF2 => ?_
                    refine wpQuiet_nil ?_
                    intro w hM
                    refine wl (sStore (i := 7) (off := 3) (cs' := #[.int .i64 r, .int .i64 p, .int .i64 (max free (aa + (max 0 (-l) + r - 1) / r)), .int .i64 (l + r * (max free (aa + (max 0 (-l) + r - 1) / r) - aa) + (r * p - 1048576) * size)]) hF2 hM (by kernel_rfl) rfl rfl (by kernel_rfl) (by kernel_rfl) rfl (by kernel_rfl) fun w hM => ?_)
                    refine wpList_nil ?_
                    refine hK37 _ _ ?_
                    refine rT 16 (by kernel_rfl) (by kernel_rfl) hM.drew ?_
                    refine eQ 27 (v0 := .pointer (some ⟨bb7, 0, none⟩)) (v := .pointer (some ⟨bb7, 0, none⟩)) hF2 (by kernel_rfl) (fun _ => by kernel_rfl) rfl fun a2 hF2 => ?_
                    refine eQ 28 (v0 := .pointer (some ⟨bb7, 0, none⟩)) (v := .pointer (some ⟨bb7, 0, none⟩)) hF2 (by kernel_rfl) (fun _ => by kernel_rfl) rfl fun a2 hF2 => ?_
                    refine eQ 29 (v0 := .pointer (some ⟨bb7, 2, none⟩)) (v := .pointer (some ⟨bb7, 2, none⟩)) hF2 (by kernel_rfl) (fun _ => by kernel_rfl) rfl fun a2 hF2 => ?_
                    refine eQ 30 (v0 := .pointer (some ⟨bb7, 2, none⟩)) (v := .pointer (some ⟨bb7, 2, none⟩)) hF2 (by kernel_rfl) (fun _ => by kernel_rfl) rfl fun a2 hF2 => ?_
                    refine eQL 31 7 2 (v := .int .i64 (max free (aa + (max 0 (-l) + r - 1) / r))) hF2 (by kernel_rfl) rfl rfl (by kernel_rfl) (by kernel_rfl) fun a2 hF2 => ?_
                    refine eQ 32 (v0 := .int .i64 size) (v := .int .i64 size) hF2 (by kernel_rfl) (fun _ => by kernel_rfl) rfl fun a2 hF2 => ?_
                    refine eQ 33 (v0 := .pointer (some ⟨bb7, 0, none⟩)) (v := .pointer (some ⟨bb7, 0, none⟩)) hF2 (by kernel_rfl) (fun _ => by kernel_rfl) rfl fun a2 hF2 => ?_
                    refine eQ 34 (v0 := .pointer (some ⟨bb7, 0, none⟩)) (v := .pointer (some ⟨bb7, 0, none⟩)) hF2 (by kernel_rfl) (fun _ => by kernel_rfl) rfl fun a2 hF2 => ?_
                    refine eQ 35 (v0 := .pointer (some ⟨bb7, 0, none⟩)) (v := .pointer (some ⟨bb7, 0, none⟩)) hF2 (by kernel_rfl) (fun _ => by kernel_rfl) rfl fun a2 hF2 => ?_
                    refine eQ 36 (v0 := .pointer (some ⟨bb7, 1, none⟩)) (v := .pointer (some ⟨bb7, 1, none⟩)) hF2 (by kernel_rfl) (fun _ => by kernel_rfl) rfl fun a2 hF2 => ?_
                    refine eQL 37 7 1 (v := .int .i64 p) hF2 (by kernel_rfl) rfl rfl (by kernel_rfl) (by kernel_rfl) fun a2 hF2 => ?_
                    have hz15 : 1 ≤ size * p ∧ size * p ≤ 1542000 := mul_bd (1) (1542) (1) (1000) (by omega) (by omega) (by omega) (by omega) (by decide)
                    refine eQ 38 (v0 := .int .i64 (IntKind.i64.wrap (size * p))) (v := .int .i64 (size * p)) hF2 (by kernel_rfl) (fun _ => by kernel_rfl) (wi (by omega)) fun a2 hF2 => ?_
                    refine eQ 39 (v0 := .int .i64 (IntKind.i64.wrap (max free (aa + (max 0 (-l) + r - 1) / r) + size * p))) (v := .int .i64 (max free (aa + (max 0 (-l) + r - 1) / r) + size * p)) hF2 (by kernel_rfl) (fun _ => by kernel_rfl) (wi (by omega)) fun a2 hF2 => ?_
                    refine eQ 40 (v0 := .pointer (some ⟨bb7, 0, none⟩)) (v := .pointer (some ⟨bb7, 0, none⟩)) hF2 (by kernel_rfl) (fun _ => by kernel_rfl) rfl fun a2 hF2 => ?_
                    refine eQ 41 (v0 := .pointer (some ⟨bb7, 2, none⟩)) (v := .pointer (some ⟨bb7, 2, none⟩)) hF2 (by kernel_rfl) (fun _ => by kernel_rfl) rfl fun a2 hF2 => ?_
                    refine eQ 42 (v0 := .pointer (some ⟨bb7, 2, none⟩)) (v := .pointer (some ⟨bb7, 2, none⟩)) hF2 (by kernel_rfl) (fun _ => by kernel_rfl) rfl fun a2 hF2 => ?_
                    refine wpQuiet_nil ?_
                    intro w hM
                    refine wl (sStore (i := 7) (off := 2) (cs' := #[.int .i64 r, .int .i64 p, .int .i64 (max free (aa + (max 0 (-l) + r - 1) / r) + size * p), .int .i64 (l + r * (max free (aa + (max 0 (-l) + r - 1) / r) - aa) + (r * p - 1048576) * size)]) hF2 hM (by kernel_rfl) rfl rfl (by kernel_rfl) (by kernel_rfl) rfl (by kernel_rfl) fun w hM => ?_)
                    refine wpList_nil ?_
                    refine hNR36 _ _ ?_
                    refine ret_ofN hF2 hM (.nil) ⟨_, rfl, ?_⟩
                    intro a1 hF1
                    refine wpList_nil ?_
                    refine hK35 _ _ ?_
                    refine wp_seq_k fun K38 hK38 => ?_
                    refine rT 4 (by kernel_rfl) (by kernel_rfl) hM.drew ?_
                    refine eQ 35 (v0 := .int .i64 (max free (aa + (max 0 (-l) + r - 1) / r))) (v := .int .i64 (max free (aa + (max 0 (-l) + r - 1) / r))) hF1 (by kernel_rfl) (fun _ => by kernel_rfl) rfl fun a1 hF1 => ?_
                    refine eQ 36 (v0 := .pointer (some ⟨bb7, 2, none⟩)) (v := .pointer (some ⟨bb7, 2, none⟩)) hF1 (by kernel_rfl) (fun _ => by kernel_rfl) rfl fun a1 hF1 => ?_
                    refine eQL 37 7 2 (v := .agg #[.int .i64 (max free (aa + (max 0 (-l) + r - 1) / r) + size * p), .int .i64 (l + r * (max free (aa + (max 0 (-l) + r - 1) / r) - aa) + (r * p - 1048576) * size)]) hF1 (by kernel_rfl) rfl rfl (by kernel_rfl) (by kernel_rfl) fun a1 hF1 => ?_
                    refine eQ 10 (v0 := .int .i64 (max free (aa + (max 0 (-l) + r - 1) / r))) (v := .int .i64 (max free (aa + (max 0 (-l) + r - 1) / r))) hF1 (by kernel_rfl) (fun _ => by kernel_rfl) rfl fun a1 hF1 => ?_
                    refine wpQuiet_nil ?_
                    intro w hM
                    refine wl (sStore (i := 6) (off := 0) (cs' := #[.int .i64 (max free (aa + (max 0 (-l) + r - 1) / r) + size * p), .int .i64 (l + r * (max free (aa + (max 0 (-l) + r - 1) / r) - aa) + (r * p - 1048576) * size)]) hF1 hM (by kernel_rfl) rfl rfl (by kernel_rfl) (by kernel_rfl) rfl (by kernel_rfl) fun w hM => ?_)
                    refine wpList_nil ?_
                    refine hK38 _ _ ?_
                    refine wp_ret ?_
                    refine hR19 _ _ ?_
                    refine ret_of hF1 hM (.tmp rfl (.cell (i := 6) rfl rfl (v := .agg #[.int .i64 (max free (aa + (max 0 (-l) + r - 1) / r) + size * p), .int .i64 (l + r * (max free (aa + (max 0 (-l) + r - 1) / r) - aa) + (r * p - 1048576) * size)]) (by kernel_rfl) (.nil))) ⟨_, rfl, ?_⟩
                    intro a hF
                    refine sB 4 [(44, .tuple #[.int .i64 (max free (aa + (max 0 (-l) + r - 1) / r)), .agg #[.int .i64 (max free (aa + (max 0 (-l) + r - 1) / r) + size * p), .int .i64 (l + r * (max free (aa + (max 0 (-l) + r - 1) / r) - aa) + (r * p - 1048576) * size)]]), (51, .int .i64 (max free (aa + (max 0 (-l) + r - 1) / r))), (52, .agg #[.int .i64 (max free (aa + (max 0 (-l) + r - 1) / r) + size * p), .int .i64 (l + r * (max free (aa + (max 0 (-l) + r - 1) / r) - aa) + (r * p - 1048576) * size)]), (10, .int .i64 (max free (aa + (max 0 (-l) + r - 1) / r)))] hF (by kernel_rfl) fun a hF => ?_
                    refine wl (sStore (i := 3) (off := 0) (cs' := #[.int .i64 (max free (aa + (max 0 (-l) + r - 1) / r) + size * p), .int .i64 (l + r * (max free (aa + (max 0 (-l) + r - 1) / r) - aa) + (r * p - 1048576) * size)]) hF hM (by kernel_rfl) rfl rfl (by kernel_rfl) (by kernel_rfl) rfl (by kernel_rfl) fun w hM => ?_)
                    refine wpList_nil ?_
                    refine hK18 _ _ ?_
                    refine wp_seq_k fun K39 hK39 => ?_
                    refine wp_seq_k fun K40 hK40 => ?_
                    refine wp_region_lit ?_
                    refine wl (eL 53 3 0 (v := .agg #[.int .i64 (max free (aa + (max 0 (-l) + r - 1) / r) + size * p), .int .i64 (l + r * (max free (aa + (max 0 (-l) + r - 1) / r) - aa) + (r * p - 1048576) * size)]) hF hM (by kernel_rfl) rfl rfl (by kernel_rfl) (by kernel_rfl) fun a w hF hM => ?_)
                    refine wl (eM 54 (v := .int .i64 (stateE (max free (aa + (max 0 (-l) + r - 1) / r) + size * p) (l + r * (max free (aa + (max 0 (-l) + r - 1) / r) - aa) + (r * p - 1048576) * size))) hF hM (by kernel_rfl) (yld_call (f := 18) (args := #[.agg #[.int .i64 (max free (aa + (max 0 (-l) + r - 1) / r) + size * p), .int .i64 (l + r * (max free (aa + (max 0 (-l) + r - 1) / r) - aa) + (r * p - 1048576) * size)]]) hF (by kernel_rfl) (fun _ => by kernel_rfl) (fun w hM => crState_w (max free (aa + (max 0 (-l) + r - 1) / r) + size * p) (l + r * (max free (aa + (max 0 (-l) + r - 1) / r) - aa) + (r * p - 1048576) * size) w)) fun a w hF hM => ?_)
                    refine sB 1 [(55, .bool (!decide (stateE (max free (aa + (max 0 (-l) + r - 1) / r) + size * p) (l + r * (max free (aa + (max 0 (-l) + r - 1) / r) - aa) + (r * p - 1048576) * size) = 0)))] hF (by kernel_rfl) fun a hF => ?_
                    refine wpList_nil ?_
                    refine hK40 _ _ ?_
                    by_cases hz16 : stateE (max free (aa + (max 0 (-l) + r - 1) / r) + size * p) (l + r * (max free (aa + (max 0 (-l) + r - 1) / r) - aa) + (r * p - 1048576) * size) = 0
                    · skip
                      have hz17 := stateE_ok hz16
                      replace hF := hF.c hF (i := 55) (v := .bool false) rfl (nT hz16)
                      refine cF hF (by kernel_rfl) (by kernel_rfl) ?_
                      refine wp_skip ?_
                      refine hK39 _ _ ?_
                      refine wp_seq_k fun K41 hK41 => ?_
                      refine rT 3 (by kernel_rfl) (by kernel_rfl) hM.drew ?_
                      refine eQ 57 (v0 := .int .i64 (max free (aa + (max 0 (-l) + r - 1) / r))) (v := .int .i64 (max free (aa + (max 0 (-l) + r - 1) / r))) hF (by kernel_rfl) (fun _ => by kernel_rfl) rfl fun a hF => ?_
                      refine eQL 58 3 0 (v := .agg #[.int .i64 (max free (aa + (max 0 (-l) + r - 1) / r) + size * p), .int .i64 (l + r * (max free (aa + (max 0 (-l) + r - 1) / r) - aa) + (r * p - 1048576) * size)]) hF (by kernel_rfl) rfl rfl (by kernel_rfl) (by kernel_rfl) fun a hF => ?_
                      refine eQ 10 (v0 := .int .i64 (max free (aa + (max 0 (-l) + r - 1) / r))) (v := .int .i64 (max free (aa + (max 0 (-l) + r - 1) / r))) hF (by kernel_rfl) (fun _ => by kernel_rfl) rfl fun a hF => ?_
                      refine wpQuiet_nil ?_
                      intro w hM
                      refine wl (sStore (i := 3) (off := 0) (cs' := #[.int .i64 (max free (aa + (max 0 (-l) + r - 1) / r) + size * p), .int .i64 (l + r * (max free (aa + (max 0 (-l) + r - 1) / r) - aa) + (r * p - 1048576) * size)]) hF hM (by kernel_rfl) rfl rfl (by kernel_rfl) (by kernel_rfl) rfl (by kernel_rfl) fun w hM => ?_)
                      refine sB 1 [(12, .int .i64 0)] hF (by kernel_rfl) fun a hF => ?_
                      refine wpList_nil ?_
                      refine hK41 _ _ ?_
                      refine wp_ret ?_
                      refine hR0 _ _ ?_
                      refine ret_of hF hM (.tmp rfl (.cell (i := 3) rfl rfl (v := .agg #[.int .i64 (max free (aa + (max 0 (-l) + r - 1) / r) + size * p), .int .i64 (l + r * (max free (aa + (max 0 (-l) + r - 1) / r) - aa) + (r * p - 1048576) * size)]) (by kernel_rfl) (.tmp rfl (.nil)))) ?_
                      have hst := step_le (r := r) (p := p) (a := aa) (l := l) (at_ := at_) (free := free) (size := size) hz11
                      have hA : stepAt r p aa l at_ free size = stepStart r aa l at_ free + size * p := rfl
                      have hL := hst.2
                      rw [hst.1] at hA hL
                      have he : cstE r p aa l at_ free size = 0 := by unfold cstE; rw [if_pos hz1, if_pos hz3, if_pos (by omega), hA, hL, if_pos hz16]
                      refine ⟨ret_eq ?_, hM.bel⟩
                      unfold cstS cstA cstL; rw [he, if_pos rfl, if_pos rfl, if_pos rfl, hA, hL, hst.1]; rfl
                    · skip
                      replace hF := hF.c hF (i := 55) (v := .bool true) rfl (nF hz16)
                      refine cT hF (by kernel_rfl) (by kernel_rfl) ?_
                      refine wp_seq_k fun K42 hK42 => ?_
                      refine wp_region_lit ?_
                      refine sB 2 [(56, .agg #[.int .i64 0, .int .i64 0]), (10, .int .i64 0)] hF (by kernel_rfl) fun a hF => ?_
                      refine wl (sStore (i := 3) (off := 0) (cs' := #[.int .i64 0, .int .i64 0]) hF hM (by kernel_rfl) rfl rfl (by kernel_rfl) (by kernel_rfl) rfl (by kernel_rfl) fun w hM => ?_)
                      refine sB 1 [(12, .int .i64 6)] hF (by kernel_rfl) fun a hF => ?_
                      refine wpList_nil ?_
                      refine hK42 _ _ ?_
                      refine wp_ret ?_
                      refine hR0 _ _ ?_
                      refine ret_of hF hM (.tmp rfl (.cell (i := 3) rfl rfl (v := .agg #[.int .i64 0, .int .i64 0]) (by kernel_rfl) (.tmp rfl (.nil)))) ?_
                      have hst := step_le (r := r) (p := p) (a := aa) (l := l) (at_ := at_) (free := free) (size := size) hz11
                      have hA : stepAt r p aa l at_ free size = stepStart r aa l at_ free + size * p := rfl
                      have hL := hst.2
                      rw [hst.1] at hA hL
                      have he : cstE r p aa l at_ free size = 6 := by unfold cstE; rw [if_pos hz1, if_pos hz3, if_pos (by omega), hA, hL, if_neg hz16]
                      refine ⟨ret_eq ?_, hM.bel⟩
                      unfold cstS cstA cstL; rw [he, if_neg (by decide), if_neg (by decide), if_neg (by decide)]; rfl
                  · skip
                    replace hF2 := hF2.c hF2 (i := 10) (v := .bool false) rfl (bF hz11)
                    refine cF hF2 (by kernel_rfl) (by kernel_rfl) ?_
                    refine wp_skip ?_
                    refine hK25 _ _ ?_
                    refine wp_seq_k fun K43 hK43 => ?_
                    refine rT 24 (by kernel_rfl) (by kernel_rfl) hM.drew ?_
                    refine eQ 11 (v0 := .pointer (some ⟨bb7, 0, none⟩)) (v := .pointer (some ⟨bb7, 0, none⟩)) hF2 (by kernel_rfl) (fun _ => by kernel_rfl) rfl fun a2 hF2 => ?_
                    refine eQ 12 (v0 := .pointer (some ⟨bb7, 0, none⟩)) (v := .pointer (some ⟨bb7, 0, none⟩)) hF2 (by kernel_rfl) (fun _ => by kernel_rfl) rfl fun a2 hF2 => ?_
                    refine eQ 13 (v0 := .pointer (some ⟨bb7, 0, none⟩)) (v := .pointer (some ⟨bb7, 0, none⟩)) hF2 (by kernel_rfl) (fun _ => by kernel_rfl) rfl fun a2 hF2 => ?_
                    refine eQ 14 (v0 := .pointer (some ⟨bb7, 2, none⟩)) (v := .pointer (some ⟨bb7, 2, none⟩)) hF2 (by kernel_rfl) (fun _ => by kernel_rfl) rfl fun a2 hF2 => ?_
                    refine eQ 15 (v0 := .pointer (some ⟨bb7, 3, none⟩)) (v := .pointer (some ⟨bb7, 3, none⟩)) hF2 (by kernel_rfl) (fun _ => by kernel_rfl) rfl fun a2 hF2 => ?_
                    refine eQL 16 7 3 (v := .int .i64 l) hF2 (by kernel_rfl) rfl rfl (by kernel_rfl) (by kernel_rfl) fun a2 hF2 => ?_
                    refine eQ 17 (v0 := .pointer (some ⟨bb7, 0, none⟩)) (v := .pointer (some ⟨bb7, 0, none⟩)) hF2 (by kernel_rfl) (fun _ => by kernel_rfl) rfl fun a2 hF2 => ?_
                    refine eQ 18 (v0 := .pointer (some ⟨bb7, 0, none⟩)) (v := .pointer (some ⟨bb7, 0, none⟩)) hF2 (by kernel_rfl) (fun _ => by kernel_rfl) rfl fun a2 hF2 => ?_
                    refine eQ 19 (v0 := .pointer (some ⟨bb7, 0, none⟩)) (v := .pointer (some ⟨bb7, 0, none⟩)) hF2 (by kernel_rfl) (fun _ => by kernel_rfl) rfl fun a2 hF2 => ?_
                    refine eQ 20 (v0 := .pointer (some ⟨bb7, 0, none⟩)) (v := .pointer (some ⟨bb7, 0, none⟩)) hF2 (by kernel_rfl) (fun _ => by kernel_rfl) rfl fun a2 hF2 => ?_
                    refine eQL 21 7 0 (v := .int .i64 r) hF2 (by kernel_rfl) rfl rfl (by kernel_rfl) (by kernel_rfl) fun a2 hF2 => ?_
                    refine eQ 22 (v0 := .int .i64 at_) (v := .int .i64 at_) hF2 (by kernel_rfl) (fun _ => by kernel_rfl) rfl fun a2 hF2 => ?_
                    refine eQ 23 (v0 := .pointer (some ⟨bb7, 0, none⟩)) (v := .pointer (some ⟨bb7, 0, none⟩)) hF2 (by kernel_rfl) (fun _ => by kernel_rfl) rfl fun a2 hF2 => ?_
                    refine eQ 24 (v0 := .pointer (some ⟨bb7, 0, none⟩)) (v := .pointer (some ⟨bb7, 0, none⟩)) hF2 (by kernel_rfl) (fun _ => by kernel_rfl) rfl fun a2 hF2 => ?_
                    refine eQ 25 (v0 := .pointer (some ⟨bb7, 2, none⟩)) (v := .pointer (some ⟨bb7, 2, none⟩)) hF2 (by kernel_rfl) (fun _ => by kernel_rfl) rfl fun a2 hF2 => ?_
                    refine eQ 26 (v0 := .pointer (some ⟨bb7, 2, none⟩)) (v := .pointer (some ⟨bb7, 2, none⟩)) hF2 (by kernel_rfl) (fun _ => by kernel_rfl) rfl fun a2 hF2 => ?_
                    refine eQL 27 7 2 (v := .int .i64 aa) hF2 (by kernel_rfl) rfl rfl (by kernel_rfl) (by kernel_rfl) fun a2 hF2 => ?_
                    refine eQ 28 (v0 := .int .i64 (IntKind.i64.wrap (at_ - aa))) (v := .int .i64 (at_ - aa)) hF2 (by kernel_rfl) (fun _ => by kernel_rfl) (wi (by omega)) fun a2 hF2 => ?_
                    have hz18 : 1 ≤ r * (at_ - aa) ∧ r * (at_ - aa) ≤ 1125898833100800 := mul_bd (1) (1048575) (1) (1073741824) (by omega) (by omega) (by omega) (by omega) (by decide)
                    refine eQ 29 (v0 := .int .i64 (IntKind.i64.wrap (r * (at_ - aa)))) (v := .int .i64 (r * (at_ - aa))) hF2 (by kernel_rfl) (fun _ => by kernel_rfl) (wi (by omega)) fun a2 hF2 => ?_
                    refine eQ 30 (v0 := .int .i64 (IntKind.i64.wrap (l + r * (at_ - aa)))) (v := .int .i64 (l + r * (at_ - aa))) hF2 (by kernel_rfl) (fun _ => by kernel_rfl) (wi (by omega)) fun a2 hF2 => ?_
                    refine eQ 31 (v0 := .int .i64 (if l + r * (at_ - aa) < 0 then l + r * (at_ - aa) else 0)) (v := .int .i64 (min 0 (l + r * (at_ - aa)))) hF2 (by kernel_rfl) (fun _ => by kernel_rfl) (vi (min_if _ _)) fun a2 hF2 => ?_
                    refine eQ 32 (v0 := .pointer (some ⟨bb7, 0, none⟩)) (v := .pointer (some ⟨bb7, 0, none⟩)) hF2 (by kernel_rfl) (fun _ => by kernel_rfl) rfl fun a2 hF2 => ?_
                    refine eQ 33 (v0 := .pointer (some ⟨bb7, 2, none⟩)) (v := .pointer (some ⟨bb7, 2, none⟩)) hF2 (by kernel_rfl) (fun _ => by kernel_rfl) rfl fun a2 hF2 => ?_
                    refine eQ 34 (v0 := .pointer (some ⟨bb7, 3, none⟩)) (v := .pointer (some ⟨bb7, 3, none⟩)) hF2 (by kernel_rfl) (fun _ => by kernel_rfl) rfl fun a2 hF2 => ?_
                    refine wpQuiet_nil ?_
                    intro w hM
                    refine wl (sStore (i := 7) (off := 3) (cs' := #[.int .i64 r, .int .i64 p, .int .i64 aa, .int .i64 (min 0 (l + r * (at_ - aa)))]) hF2 hM (by kernel_rfl) rfl rfl (by kernel_rfl) (by kernel_rfl) rfl (by kernel_rfl) fun w hM => ?_)
                    refine wpList_nil ?_
                    refine hK43 _ _ ?_
                    refine wp_region_lit ?_
                    refine sB 5 [(35, .pointer (some ⟨bb7, 0, none⟩)), (36, .int .i64 at_), (37, .pointer (some ⟨bb7, 0, none⟩)), (38, .pointer (some ⟨bb7, 2, none⟩)), (39, .pointer (some ⟨bb7, 2, none⟩))] hF2 (by kernel_rfl) fun a2 hF2 => ?_
                    refine wl (sStore (i := 7) (off := 2) (cs' := #[.int .i64 r, .int .i64 p, .int .i64 at_, .int .i64 (min 0 (l + r * (at_ - aa)))]) hF2 hM (by kernel_rfl) rfl rfl (by kernel_rfl) (by kernel_rfl) rfl (by kernel_rfl) fun w hM => ?_)
                    refine wpList_nil ?_
                    refine hNR24 _ _ ?_
                    refine ret_ofN hF2 hM (.nil) ⟨_, rfl, ?_⟩
                    intro a1 hF1
                    refine wpList_nil ?_
                    refine hK23 _ _ ?_
                    refine wp_seq_k fun K44 hK44 => ?_
                    refine wp_region_lit ?_
                    refine sB 1 [(26, .int .i64 free)] hF1 (by kernel_rfl) fun a1 hF1 => ?_
                    refine wl (sC (f := 41) (args := #[.pointer (some ⟨bb7, 0, none⟩)]) hF1 (by kernel_rfl) rfl (by decide) (by kernel_rfl) (fun _ => by kernel_rfl) ?_)
                    refine enterK 31 Try.func41 rfl rfl rfl ?_
                    intro a2 hF2 QR45 hR45 hNR45
                    refine wp_seq_k fun K46 hK46 => ?_
                    refine wp_region_lit ?_
                    refine sB 1 [(2, .int .i64 0)] hF2 (by kernel_rfl) fun a2 hF2 => ?_
                    refine wpList_nil ?_
                    refine hK46 _ _ ?_
                    refine wp_seq_k fun K47 hK47 => ?_
                    refine wp_region_lit ?_
                    refine sB 4 [(4, .pointer (some ⟨bb7, 0, none⟩)), (5, .pointer (some ⟨bb7, 0, none⟩)), (6, .pointer (some ⟨bb7, 2, none⟩)), (7, .pointer (some ⟨bb7, 3, none⟩))] hF2 (by kernel_rfl) fun a2 hF2 => ?_
                    refine wl (eL 8 7 3 (v := .int .i64 (min 0 (l + r * (at_ - aa)))) hF2 hM (by kernel_rfl) rfl rfl (by kernel_rfl) (by kernel_rfl) fun a2 w hF2 hM => ?_)
                    refine wl (eP 9 (v0 := .int .i64 (IntKind.i64.wrap (0 - min 0 (l + r * (at_ - aa))))) (v := .int .i64 (-min 0 (l + r * (at_ - aa)))) hF2 (by kernel_rfl) (fun _ => by kernel_rfl) (vi (by rw [Int.zero_sub]; exact (w64 (by omega)))) fun a2 hF2 => ?_)
                    refine wl (eP 10 (v0 := .int .i64 (if -min 0 (l + r * (at_ - aa)) > 0 then -min 0 (l + r * (at_ - aa)) else 0)) (v := .int .i64 (max 0 (-min 0 (l + r * (at_ - aa))))) hF2 (by kernel_rfl) (fun _ => by kernel_rfl) (vi (max_if _ _)) fun a2 hF2 => ?_)
                    refine sB 1 [(3, .int .i64 (max 0 (-min 0 (l + r * (at_ - aa)))))] hF2 (by kernel_rfl) fun a2 hF2 => ?_
                    refine wpList_nil ?_
                    refine hK47 _ _ ?_
                    refine wp_seq_k fun K48 hK48 => ?_
                    refine rQ hM (by kernel_rfl) (by kernel_rfl) ?_
                    refine eQ 11 (v0 := .pointer (some ⟨bb7, 0, none⟩)) (v := .pointer (some ⟨bb7, 0, none⟩)) hF2 (by kernel_rfl) (fun _ => by kernel_rfl) rfl fun a2 hF2 => ?_
                    refine eQ 12 (v0 := .pointer (some ⟨bb7, 0, none⟩)) (v := .pointer (some ⟨bb7, 0, none⟩)) hF2 (by kernel_rfl) (fun _ => by kernel_rfl) rfl fun a2 hF2 => ?_
                    refine eQ 13 (v0 := .pointer (some ⟨bb7, 2, none⟩)) (v := .pointer (some ⟨bb7, 2, none⟩)) hF2 (by kernel_rfl) (fun _ => by kernel_rfl) rfl fun a2 hF2 => ?_
                    refine eQ 14 (v0 := .pointer (some ⟨bb7, 2, none⟩)) (v := .pointer (some ⟨bb7, 2, none⟩)) hF2 (by kernel_rfl) (fun _ => by kernel_rfl) rfl fun a2 hF2 => ?_
                    refine eQL 15 7 2 (v := .int .i64 at_) hF2 (by kernel_rfl) rfl rfl (by kernel_rfl) (by kernel_rfl) fun a2 hF2 => ?_
                    refine eQ 16 (v0 := .int .i64 (max 0 (-min 0 (l + r * (at_ - aa))))) (v := .int .i64 (max 0 (-min 0 (l + r * (at_ - aa))))) hF2 (by kernel_rfl) (fun _ => by kernel_rfl) rfl fun a2 hF2 => ?_
                    refine eQ 17 (v0 := .pointer (some ⟨bb7, 0, none⟩)) (v := .pointer (some ⟨bb7, 0, none⟩)) hF2 (by kernel_rfl) (fun _ => by kernel_rfl) rfl fun a2 hF2 => ?_
                    refine eQ 18 (v0 := .pointer (some ⟨bb7, 0, none⟩)) (v := .pointer (some ⟨bb7, 0, none⟩)) hF2 (by kernel_rfl) (fun _ => by kernel_rfl) rfl fun a2 hF2 => ?_
                    refine eQ 19 (v0 := .pointer (some ⟨bb7, 0, none⟩)) (v := .pointer (some ⟨bb7, 0, none⟩)) hF2 (by kernel_rfl) (fun _ => by kernel_rfl) rfl fun a2 hF2 => ?_
                    refine eQ 20 (v0 := .pointer (some ⟨bb7, 0, none⟩)) (v := .pointer (some ⟨bb7, 0, none⟩)) hF2 (by kernel_rfl) (fun _ => by kernel_rfl) rfl fun a2 hF2 => ?_
                    refine eQL 21 7 0 (v := .int .i64 r) hF2 (by kernel_rfl) rfl rfl (by kernel_rfl) (by kernel_rfl) fun a2 hF2 => ?_
                    refine eQ 22 (v0 := .int .i64 (IntKind.i64.wrap (max 0 (-min 0 (l + r * (at_ - aa))) + r))) (v := .int .i64 (max 0 (-min 0 (l + r * (at_ - aa))) + r)) hF2 (by kernel_rfl) (fun _ => by kernel_rfl) (wi (by omega)) fun a2 hF2 => ?_
                    refine eQ 23 (v0 := .int .i64 (IntKind.i64.wrap (max 0 (-min 0 (l + r * (at_ - aa))) + r - 1))) (v := .int .i64 (max 0 (-min 0 (l + r * (at_ - aa))) + r - 1)) hF2 (by kernel_rfl) (fun _ => by kernel_rfl) (wi (by omega)) fun a2 hF2 => ?_
                    refine eQ 24 (v0 := .pointer (some ⟨bb7, 0, none⟩)) (v := .pointer (some ⟨bb7, 0, none⟩)) hF2 (by kernel_rfl) (fun _ => by kernel_rfl) rfl fun a2 hF2 => ?_
                    refine eQ 25 (v0 := .pointer (some ⟨bb7, 0, none⟩)) (v := .pointer (some ⟨bb7, 0, none⟩)) hF2 (by kernel_rfl) (fun _ => by kernel_rfl) rfl fun a2 hF2 => ?_
                    refine eQ 26 (v0 := .pointer (some ⟨bb7, 0, none⟩)) (v := .pointer (some ⟨bb7, 0, none⟩)) hF2 (by kernel_rfl) (fun _ => by kernel_rfl) rfl fun a2 hF2 => ?_
                    refine eQ 27 (v0 := .pointer (some ⟨bb7, 0, none⟩)) (v := .pointer (some ⟨bb7, 0, none⟩)) hF2 (by kernel_rfl) (fun _ => by kernel_rfl) rfl fun a2 hF2 => ?_
                    refine eQL 28 7 0 (v := .int .i64 r) hF2 (by kernel_rfl) rfl rfl (by kernel_rfl) (by kernel_rfl) fun a2 hF2 => ?_
                    refine eQ2 29 (v := .int .i64 ((max 0 (-min 0 (l + r * (at_ - aa))) + r - 1) / r)) hF2 (by kernel_rfl) (yld_quo (max 0 (-min 0 (l + r * (at_ - aa))) + r - 1) r hF2 rfl (by kernel_rfl) (by kernel_rfl) (by kernel_rfl) (by omega) (qpos_i64 (by omega) (by omega) (by omega))) fun a2 hF2 => ?_
                    have := ediv_le_self_of (p := max 0 (-min 0 (l + r * (at_ - aa))) + r - 1) (q := r) (by omega) (by omega)
                    refine eQ 30 (v0 := .int .i64 (IntKind.i64.wrap (at_ + (max 0 (-min 0 (l + r * (at_ - aa))) + r - 1) / r))) (v := .int .i64 (at_ + (max 0 (-min 0 (l + r * (at_ - aa))) + r - 1) / r)) hF2 (by kernel_rfl) (fun _ => by kernel_rfl) (wi (by omega)) fun a2 hF2 => ?_
                    refine eQ 2 (v0 := .int .i64 (at_ + (max 0 (-min 0 (l + r * (at_ - aa))) + r - 1) / r)) (v := .int .i64 (at_ + (max 0 (-min 0 (l + r * (at_ - aa))) + r - 1) / r)) hF2 (by kernel_rfl) (fun _ => by kernel_rfl) rfl fun a2 hF2 => ?_
                    refine wpQuiet_nil ?_
                    intro w hM
                    refine hK48 _ _ ?_
                    refine wp_ret ?_
                    refine hR45 _ _ ?_
                    refine ret_of hF2 hM (.tmp rfl (.nil)) ⟨_, rfl, ?_⟩
                    intro a1 hF1
                    refine wl (eP 28 (v0 := .int .i64 (if at_ + (max 0 (-min 0 (l + r * (at_ - aa))) + r - 1) / r > free then at_ + (max 0 (-min 0 (l + r * (at_ - aa))) + r - 1) / r else free)) (v := .int .i64 (max free (at_ + (max 0 (-min 0 (l + r * (at_ - aa))) + r - 1) / r))) hF1 (by kernel_rfl) (fun _ => by kernel_rfl) (vi (max_if _ _)) fun a1 hF1 => ?_)
                    refine sB 1 [(16, .int .i64 (max free (at_ + (max 0 (-min 0 (l + r * (at_ - aa))) + r - 1) / r)))] hF1 (by kernel_rfl) fun a1 hF1 => ?_
                    refine wpList_nil ?_
                    refine hK44 _ _ ?_
                    refine wp_seq_k fun K49 hK49 => ?_
                    refine wp_region_lit ?_
                    refine sB 2 [(29, .func (.func 39) #[.pointer (some ⟨bb7, 0, none⟩)] #[]), (30, .int .i64 (max free (at_ + (max 0 (-min 0 (l + r * (at_ - aa))) + r - 1) / r)))] hF1 (by kernel_rfl) fun a1 hF1 => ?_
                    refine wl (sC (f := 39) (args := #[.pointer (some ⟨bb7, 0, none⟩), .int .i64 (max free (at_ + (max 0 (-min 0 (l + r * (at_ - aa))) + r - 1) / r))]) hF1 (by kernel_rfl) rfl (by decide) (by kernel_rfl) (fun _ => by kernel_rfl) ?_)
                    refine enterK 31 Try.func39 rfl rfl rfl ?_
                    intro a2 hF2 QR50 hR50 hNR50
                    refine wp_seq_k fun K51 hK51 => ?_
                    refine rT 22 (by kernel_rfl) (by kernel_rfl) hM.drew ?_
                    refine eQ 4 (v0 := .pointer (some ⟨bb7, 0, none⟩)) (v := .pointer (some ⟨bb7, 0, none⟩)) hF2 (by kernel_rfl) (fun _ => by kernel_rfl) rfl fun a2 hF2 => ?_
                    refine eQ 5 (v0 := .pointer (some ⟨bb7, 0, none⟩)) (v := .pointer (some ⟨bb7, 0, none⟩)) hF2 (by kernel_rfl) (fun _ => by kernel_rfl) rfl fun a2 hF2 => ?_
                    refine eQ 6 (v0 := .pointer (some ⟨bb7, 2, none⟩)) (v := .pointer (some ⟨bb7, 2, none⟩)) hF2 (by kernel_rfl) (fun _ => by kernel_rfl) rfl fun a2 hF2 => ?_
                    refine eQ 7 (v0 := .pointer (some ⟨bb7, 3, none⟩)) (v := .pointer (some ⟨bb7, 3, none⟩)) hF2 (by kernel_rfl) (fun _ => by kernel_rfl) rfl fun a2 hF2 => ?_
                    refine eQL 8 7 3 (v := .int .i64 (min 0 (l + r * (at_ - aa)))) hF2 (by kernel_rfl) rfl rfl (by kernel_rfl) (by kernel_rfl) fun a2 hF2 => ?_
                    refine eQ 9 (v0 := .pointer (some ⟨bb7, 0, none⟩)) (v := .pointer (some ⟨bb7, 0, none⟩)) hF2 (by kernel_rfl) (fun _ => by kernel_rfl) rfl fun a2 hF2 => ?_
                    refine eQ 10 (v0 := .pointer (some ⟨bb7, 0, none⟩)) (v := .pointer (some ⟨bb7, 0, none⟩)) hF2 (by kernel_rfl) (fun _ => by kernel_rfl) rfl fun a2 hF2 => ?_
                    refine eQ 11 (v0 := .pointer (some ⟨bb7, 0, none⟩)) (v := .pointer (some ⟨bb7, 0, none⟩)) hF2 (by kernel_rfl) (fun _ => by kernel_rfl) rfl fun a2 hF2 => ?_
                    refine eQ 12 (v0 := .pointer (some ⟨bb7, 0, none⟩)) (v := .pointer (some ⟨bb7, 0, none⟩)) hF2 (by kernel_rfl) (fun _ => by kernel_rfl) rfl fun a2 hF2 => ?_
                    refine eQL 13 7 0 (v := .int .i64 r) hF2 (by kernel_rfl) rfl rfl (by kernel_rfl) (by kernel_rfl) fun a2 hF2 => ?_
                    refine eQ 14 (v0 := .int .i64 (max free (at_ + (max 0 (-min 0 (l + r * (at_ - aa))) + r - 1) / r))) (v := .int .i64 (max free (at_ + (max 0 (-min 0 (l + r * (at_ - aa))) + r - 1) / r))) hF2 (by kernel_rfl) (fun _ => by kernel_rfl) rfl fun a2 hF2 => ?_
                    refine eQ 15 (v0 := .pointer (some ⟨bb7, 0, none⟩)) (v := .pointer (some ⟨bb7, 0, none⟩)) hF2 (by kernel_rfl) (fun _ => by kernel_rfl) rfl fun a2 hF2 => ?_
                    refine eQ 16 (v0 := .pointer (some ⟨bb7, 0, none⟩)) (v := .pointer (some ⟨bb7, 0, none⟩)) hF2 (by kernel_rfl) (fun _ => by kernel_rfl) rfl fun a2 hF2 => ?_
                    refine eQ 17 (v0 := .pointer (some ⟨bb7, 2, none⟩)) (v := .pointer (some ⟨bb7, 2, none⟩)) hF2 (by kernel_rfl) (fun _ => by kernel_rfl) rfl fun a2 hF2 => ?_
                    refine eQ 18 (v0 := .pointer (some ⟨bb7, 2, none⟩)) (v := .pointer (some ⟨bb7, 2, none⟩)) hF2 (by kernel_rfl) (fun _ => by kernel_rfl) rfl fun a2 hF2 => ?_
                    refine eQL 19 7 2 (v := .int .i64 at_) hF2 (by kernel_rfl) rfl rfl (by kernel_rfl) (by kernel_rfl) fun a2 hF2 => ?_
                    refine eQ 20 (v0 := .int .i64 (IntKind.i64.wrap (max free (at_ + (max 0 (-min 0 (l + r * (at_ - aa))) + r - 1) / r) - at_))) (v := .int .i64 (max free (at_ + (max 0 (-min 0 (l + r * (at_ - aa))) + r - 1) / r) - at_)) hF2 (by kernel_rfl) (fun _ => by kernel_rfl) (wi (by omega)) fun a2 hF2 => ?_
                    have hz19 : 0 ≤ r * (max free (at_ + (max 0 (-min 0 (l + r * (at_ - aa))) + r - 1) / r) - at_) ∧ r * (max free (at_ + (max 0 (-min 0 (l + r * (at_ - aa))) + r - 1) / r) - at_) ≤ 2822443652612100 := mul_bd (1) (1048575) (0) (2691694588) (by omega) (by omega) (by omega) (by omega) (by decide)
                    refine eQ 21 (v0 := .int .i64 (IntKind.i64.wrap (r * (max free (at_ + (max 0 (-min 0 (l + r * (at_ - aa))) + r - 1) / r) - at_)))) (v := .int .i64 (r * (max free (at_ + (max 0 (-min 0 (l + r * (at_ - aa))) + r - 1) / r) - at_))) hF2 (by kernel_rfl) (fun _ => by kernel_rfl) (wi (by omega)) fun a2 hF2 => ?_
                    refine eQ 22 (v0 := .int .i64 (IntKind.i64.wrap (min 0 (l + r * (at_ - aa)) + r * (max free (at_ + (max 0 (-min 0 (l + r * (at_ - aa))) + r - 1) / r) - at_)))) (v := .int .i64 (min 0 (l + r * (at_ - aa)) + r * (max free (at_ + (max 0 (-min 0 (l + r * (at_ - aa))) + r - 1) / r) - at_))) hF2 (by kernel_rfl) (fun _ => by kernel_rfl) (wi (by omega)) fun a2 hF2 => ?_
                    refine eQ 23 (v0 := .pointer (some ⟨bb7, 0, none⟩)) (v := .pointer (some ⟨bb7, 0, none⟩)) hF2 (by kernel_rfl) (fun _ => by kernel_rfl) rfl fun a2 hF2 => ?_
                    refine eQ 24 (v0 := .pointer (some ⟨bb7, 2, none⟩)) (v := .pointer (some ⟨bb7, 2, none⟩)) hF2 (by kernel_rfl) (fun _ => by kernel_rfl) rfl fun a2 hF2 => ?_
                    refine eQ 25 (v0 := .pointer (some ⟨bb7, 3, none⟩)) (v := .pointer (some ⟨bb7, 3, none⟩)) hF2 (by kernel_rfl) (fun _ => by kernel_rfl) rfl fun a2 hF2 => ?_
                    refine wpQuiet_nil ?_
                    intro w hM
                    refine wl (sStore (i := 7) (off := 3) (cs' := #[.int .i64 r, .int .i64 p, .int .i64 at_, .int .i64 (min 0 (l + r * (at_ - aa)) + r * (max free (at_ + (max 0 (-min 0 (l + r * (at_ - aa))) + r - 1) / r) - at_))]) hF2 hM (by kernel_rfl) rfl rfl (by kernel_rfl) (by kernel_rfl) rfl (by kernel_rfl) fun w hM => ?_)
                    refine wpList_nil ?_
                    refine hK51 _ _ ?_
                    refine wp_region_lit ?_
                    refine sB 5 [(26, .pointer (some ⟨bb7, 0, none⟩)), (27, .int .i64 (max free (at_ + (max 0 (-min 0 (l + r * (at_ - aa))) + r - 1) / r))), (28, .pointer (some ⟨bb7, 0, none⟩)), (29, .pointer (some ⟨bb7, 2, none⟩)), (30, .pointer (some ⟨bb7, 2, none⟩))] hF2 (by kernel_rfl) fun a2 hF2 => ?_
                    refine wl (sStore (i := 7) (off := 2) (cs' := #[.int .i64 r, .int .i64 p, .int .i64 (max free (at_ + (max 0 (-min 0 (l + r * (at_ - aa))) + r - 1) / r)), .int .i64 (min 0 (l + r * (at_ - aa)) + r * (max free (at_ + (max 0 (-min 0 (l + r * (at_ - aa))) + r - 1) / r) - at_))]) hF2 hM (by kernel_rfl) rfl rfl (by kernel_rfl) (by kernel_rfl) rfl (by kernel_rfl) fun w hM => ?_)
                    refine wpList_nil ?_
                    refine hNR50 _ _ ?_
                    refine ret_ofN hF2 hM (.nil) ⟨_, rfl, ?_⟩
                    intro a1 hF1
                    refine wpList_nil ?_
                    refine hK49 _ _ ?_
                    refine wp_seq_k fun K52 hK52 => ?_
                    refine wp_region_lit ?_
                    refine sB 2 [(32, .func (.func 40) #[.pointer (some ⟨bb7, 0, none⟩)] #[]), (33, .int .i64 size)] hF1 (by kernel_rfl) fun a1 hF1 => ?_
                    refine wl (sC (f := 40) (args := #[.pointer (some ⟨bb7, 0, none⟩), .int .i64 size]) hF1 (by kernel_rfl) rfl (by decide) (by kernel_rfl) (fun _ => by kernel_rfl) ?_)
                    refine enterK 43 Try.func40 rfl rfl rfl ?_
                    intro a2 hF2 QR53 hR53 hNR53
                    refine wp_seq_k fun K54 hK54 => ?_
                    refine rT 23 (by kernel_rfl) (by kernel_rfl) hM.drew ?_
                    refine eQ 4 (v0 := .pointer (some ⟨bb7, 0, none⟩)) (v := .pointer (some ⟨bb7, 0, none⟩)) hF2 (by kernel_rfl) (fun _ => by kernel_rfl) rfl fun a2 hF2 => ?_
                    refine eQ 5 (v0 := .pointer (some ⟨bb7, 0, none⟩)) (v := .pointer (some ⟨bb7, 0, none⟩)) hF2 (by kernel_rfl) (fun _ => by kernel_rfl) rfl fun a2 hF2 => ?_
                    refine eQ 6 (v0 := .pointer (some ⟨bb7, 2, none⟩)) (v := .pointer (some ⟨bb7, 2, none⟩)) hF2 (by kernel_rfl) (fun _ => by kernel_rfl) rfl fun a2 hF2 => ?_
                    refine eQ 7 (v0 := .pointer (some ⟨bb7, 3, none⟩)) (v := .pointer (some ⟨bb7, 3, none⟩)) hF2 (by kernel_rfl) (fun _ => by kernel_rfl) rfl fun a2 hF2 => ?_
                    refine eQL 8 7 3 (v := .int .i64 (min 0 (l + r * (at_ - aa)) + r * (max free (at_ + (max 0 (-min 0 (l + r * (at_ - aa))) + r - 1) / r) - at_))) hF2 (by kernel_rfl) rfl rfl (by kernel_rfl) (by kernel_rfl) fun a2 hF2 => ?_
                    refine eQ 9 (v0 := .pointer (some ⟨bb7, 0, none⟩)) (v := .pointer (some ⟨bb7, 0, none⟩)) hF2 (by kernel_rfl) (fun _ => by kernel_rfl) rfl fun a2 hF2 => ?_
                    refine eQ 10 (v0 := .pointer (some ⟨bb7, 0, none⟩)) (v := .pointer (some ⟨bb7, 0, none⟩)) hF2 (by kernel_rfl) (fun _ => by kernel_rfl) rfl fun a2 hF2 => ?_
                    refine eQ 11 (v0 := .pointer (some ⟨bb7, 0, none⟩)) (v := .pointer (some ⟨bb7, 0, none⟩)) hF2 (by kernel_rfl) (fun _ => by kernel_rfl) rfl fun a2 hF2 => ?_
                    refine eQ 12 (v0 := .pointer (some ⟨bb7, 0, none⟩)) (v := .pointer (some ⟨bb7, 0, none⟩)) hF2 (by kernel_rfl) (fun _ => by kernel_rfl) rfl fun a2 hF2 => ?_
                    refine eQL 13 7 0 (v := .int .i64 r) hF2 (by kernel_rfl) rfl rfl (by kernel_rfl) (by kernel_rfl) fun a2 hF2 => ?_
                    refine eQ 14 (v0 := .pointer (some ⟨bb7, 0, none⟩)) (v := .pointer (some ⟨bb7, 0, none⟩)) hF2 (by kernel_rfl) (fun _ => by kernel_rfl) rfl fun a2 hF2 => ?_
                    refine eQ 15 (v0 := .pointer (some ⟨bb7, 0, none⟩)) (v := .pointer (some ⟨bb7, 0, none⟩)) hF2 (by kernel_rfl) (fun _ => by kernel_rfl) rfl fun a2 hF2 => ?_
                    refine eQ 16 (v0 := .pointer (some ⟨bb7, 0, none⟩)) (v := .pointer (some ⟨bb7, 0, none⟩)) hF2 (by kernel_rfl) (fun _ => by kernel_rfl) rfl fun a2 hF2 => ?_
                    refine eQ 17 (v0 := .pointer (some ⟨bb7, 1, none⟩)) (v := .pointer (some ⟨bb7, 1, none⟩)) hF2 (by kernel_rfl) (fun _ => by kernel_rfl) rfl fun a2 hF2 => ?_
                    refine eQL 18 7 1 (v := .int .i64 p) hF2 (by kernel_rfl) rfl rfl (by kernel_rfl) (by kernel_rfl) fun a2 hF2 => ?_
                    have hz20 : 1 ≤ r * p ∧ r * p ≤ 1048575000 := mul_bd (1) (1048575) (1) (1000) (by omega) (by omega) (by omega) (by omega) (by decide)
                    refine eQ 19 (v0 := .int .i64 (IntKind.i64.wrap (r * p))) (v := .int .i64 (r * p)) hF2 (by kernel_rfl) (fun _ => by kernel_rfl) (wi (by omega)) fun a2 hF2 => ?_
                    refine eQ 20 (v0 := .int .i64 (IntKind.i64.wrap (r * p - 1048576))) (v := .int .i64 (r * p - 1048576)) hF2 (by kernel_rfl) (fun _ => by kernel_rfl) (wi (by omega)) fun a2 hF2 => ?_
                    refine eQ 21 (v0 := .int .i64 size) (v := .int .i64 size) hF2 (by kernel_rfl) (fun _ => by kernel_rfl) rfl fun a2 hF2 => ?_
                    have hz21 : -1616902650 ≤ (r * p - 1048576) * size ∧ (r * p - 1048576) * size ≤ -1 := mul_bd (-1048575) (-1) (1) (1542) (by omega) (by omega) (by omega) (by omega) (by decide)
                    refine eQ 22 (v0 := .int .i64 (IntKind.i64.wrap ((r * p - 1048576) * size))) (v := .int .i64 ((r * p - 1048576) * size)) hF2 (by kernel_rfl) (fun _ => by kernel_rfl) (wi (by omega)) fun a2 hF2 => ?_
                    refine eQ 23 (v0 := .int .i64 (IntKind.i64.wrap (min 0 (l + r * (at_ - aa)) + r * (max free (at_ + (max 0 (-min 0 (l + r * (at_ - aa))) + r - 1) / r) - at_) + (r * p - 1048576) * size))) (v := .int .i64 (min 0 (l + r * (at_ - aa)) + r * (max free (at_ + (max 0 (-min 0 (l + r * (at_ - aa))) + r - 1) / r) - at_) + (r * p - 1048576) * size)) hF2 (by kernel_rfl) (fun _ => by kernel_rfl) (wi (by omega)) fun a2 hF2 => ?_
                    refine eQ 24 (v0 := .pointer (some ⟨bb7, 0, none⟩)) (v := .pointer (some ⟨bb7, 0, none⟩)) hF2 (by kernel_rfl) (fun _ => by kernel_rfl) rfl fun a2 hF2 => ?_
                    refine eQ 25 (v0 := .pointer (some ⟨bb7, 2, none⟩)) (v := .pointer (some ⟨bb7, 2, none⟩)) hF2 (by kernel_rfl) (fun _ => by kernel_rfl) rfl fun a2 hF2 => ?_
                    refine eQ 26 (v0 := .pointer (some ⟨bb7, 3, none⟩)) (v := .pointer (some ⟨bb7, 3, none⟩)) hF2 (by kernel_rfl) (fun _ => by kernel_rfl) rfl fun a2 hF2 => ?_
                    refine wpQuiet_nil ?_
                    intro w hM
                    refine wl (sStore (i := 7) (off := 3) (cs' := #[.int .i64 r, .int .i64 p, .int .i64 (max free (at_ + (max 0 (-min 0 (l + r * (at_ - aa))) + r - 1) / r)), .int .i64 (min 0 (l + r * (at_ - aa)) + r * (max free (at_ + (max 0 (-min 0 (l + r * (at_ - aa))) + r - 1) / r) - at_) + (r * p - 1048576) * size)]) hF2 hM (by kernel_rfl) rfl rfl (by kernel_rfl) (by kernel_rfl) rfl (by kernel_rfl) fun w hM => ?_)
                    refine wpList_nil ?_
                    refine hK54 _ _ ?_
                    refine rT 16 (by kernel_rfl) (by kernel_rfl) hM.drew ?_
                    refine eQ 27 (v0 := .pointer (some ⟨bb7, 0, none⟩)) (v := .pointer (some ⟨bb7, 0, none⟩)) hF2 (by kernel_rfl) (fun _ => by kernel_rfl) rfl fun a2 hF2 => ?_
                    refine eQ 28 (v0 := .pointer (some ⟨bb7, 0, none⟩)) (v := .pointer (some ⟨bb7, 0, none⟩)) hF2 (by kernel_rfl) (fun _ => by kernel_rfl) rfl fun a2 hF2 => ?_
                    refine eQ 29 (v0 := .pointer (some ⟨bb7, 2, none⟩)) (v := .pointer (some ⟨bb7, 2, none⟩)) hF2 (by kernel_rfl) (fun _ => by kernel_rfl) rfl fun a2 hF2 => ?_
                    refine eQ 30 (v0 := .pointer (some ⟨bb7, 2, none⟩)) (v := .pointer (some ⟨bb7, 2, none⟩)) hF2 (by kernel_rfl) (fun _ => by kernel_rfl) rfl fun a2 hF2 => ?_
                    refine eQL 31 7 2 (v := .int .i64 (max free (at_ + (max 0 (-min 0 (l + r * (at_ - aa))) + r - 1) / r))) hF2 (by kernel_rfl) rfl rfl (by kernel_rfl) (by kernel_rfl) fun a2 hF2 => ?_
                    refine eQ 32 (v0 := .int .i64 size) (v := .int .i64 size) hF2 (by kernel_rfl) (fun _ => by kernel_rfl) rfl fun a2 hF2 => ?_
                    refine eQ 33 (v0 := .pointer (some ⟨bb7, 0, none⟩)) (v := .pointer (some ⟨bb7, 0, none⟩)) hF2 (by kernel_rfl) (fun _ => by kernel_rfl) rfl fun a2 hF2 => ?_
                    refine eQ 34 (v0 := .pointer (some ⟨bb7, 0, none⟩)) (v := .pointer (some ⟨bb7, 0, none⟩)) hF2 (by kernel_rfl) (fun _ => by kernel_rfl) rfl fun a2 hF2 => ?_
                    refine eQ 35 (v0 := .pointer (some ⟨bb7, 0, none⟩)) (v := .pointer (some ⟨bb7, 0, none⟩)) hF2 (by kernel_rfl) (fun _ => by kernel_rfl) rfl fun a2 hF2 => ?_
                    refine eQ 36 (v0 := .pointer (some ⟨bb7, 1, none⟩)) (v := .pointer (some ⟨bb7, 1, none⟩)) hF2 (by kernel_rfl) (fun _ => by kernel_rfl) rfl fun a2 hF2 => ?_
                    refine eQL 37 7 1 (v := .int .i64 p) hF2 (by kernel_rfl) rfl rfl (by kernel_rfl) (by kernel_rfl) fun a2 hF2 => ?_
                    have hz22 : 1 ≤ size * p ∧ size * p ≤ 1542000 := mul_bd (1) (1542) (1) (1000) (by omega) (by omega) (by omega) (by omega) (by decide)
                    refine eQ 38 (v0 := .int .i64 (IntKind.i64.wrap (size * p))) (v := .int .i64 (size * p)) hF2 (by kernel_rfl) (fun _ => by kernel_rfl) (wi (by omega)) fun a2 hF2 => ?_
                    refine eQ 39 (v0 := .int .i64 (IntKind.i64.wrap (max free (at_ + (max 0 (-min 0 (l + r * (at_ - aa))) + r - 1) / r) + size * p))) (v := .int .i64 (max free (at_ + (max 0 (-min 0 (l + r * (at_ - aa))) + r - 1) / r) + size * p)) hF2 (by kernel_rfl) (fun _ => by kernel_rfl) (wi (by omega)) fun a2 hF2 => ?_
                    refine eQ 40 (v0 := .pointer (some ⟨bb7, 0, none⟩)) (v := .pointer (some ⟨bb7, 0, none⟩)) hF2 (by kernel_rfl) (fun _ => by kernel_rfl) rfl fun a2 hF2 => ?_
                    refine eQ 41 (v0 := .pointer (some ⟨bb7, 2, none⟩)) (v := .pointer (some ⟨bb7, 2, none⟩)) hF2 (by kernel_rfl) (fun _ => by kernel_rfl) rfl fun a2 hF2 => ?_
                    refine eQ 42 (v0 := .pointer (some ⟨bb7, 2, none⟩)) (v := .pointer (some ⟨bb7, 2, none⟩)) hF2 (by kernel_rfl) (fun _ => by kernel_rfl) rfl fun a2 hF2 => ?_
                    refine wpQuiet_nil ?_
                    intro w hM
                    refine wl (sStore (i := 7) (off := 2) (cs' := #[.int .i64 r, .int .i64 p, .int .i64 (max free (at_ + (max 0 (-min 0 (l + r * (at_ - aa))) + r - 1) / r) + size * p), .int .i64 (min 0 (l + r * (at_ - aa)) + r * (max free (at_ + (max 0 (-min 0 (l + r * (at_ - aa))) + r - 1) / r) - at_) + (r * p - 1048576) * size)]) hF2 hM (by kernel_rfl) rfl rfl (by kernel_rfl) (by kernel_rfl) rfl (by kernel_rfl) fun w hM => ?_)
                    refine wpList_nil ?_
                    refine hNR53 _ _ ?_
                    refine ret_ofN hF2 hM (.nil) ⟨_, rfl, ?_⟩
                    intro a1 hF1
                    refine wpList_nil ?_
                    refine hK52 _ _ ?_
                    refine wp_seq_k fun K55 hK55 => ?_
                    refine rT 4 (by kernel_rfl) (by kernel_rfl) hM.drew ?_
                    refine eQ 35 (v0 := .int .i64 (max free (at_ + (max 0 (-min 0 (l + r * (at_ - aa))) + r - 1) / r))) (v := .int .i64 (max free (at_ + (max 0 (-min 0 (l + r * (at_ - aa))) + r - 1) / r))) hF1 (by kernel_rfl) (fun _ => by kernel_rfl) rfl fun a1 hF1 => ?_
                    refine eQ 36 (v0 := .pointer (some ⟨bb7, 2, none⟩)) (v := .pointer (some ⟨bb7, 2, none⟩)) hF1 (by kernel_rfl) (fun _ => by kernel_rfl) rfl fun a1 hF1 => ?_
                    refine eQL 37 7 2 (v := .agg #[.int .i64 (max free (at_ + (max 0 (-min 0 (l + r * (at_ - aa))) + r - 1) / r) + size * p), .int .i64 (min 0 (l + r * (at_ - aa)) + r * (max free (at_ + (max 0 (-min 0 (l + r * (at_ - aa))) + r - 1) / r) - at_) + (r * p - 1048576) * size)]) hF1 (by kernel_rfl) rfl rfl (by kernel_rfl) (by kernel_rfl) fun a1 hF1 => ?_
                    refine eQ 10 (v0 := .int .i64 (max free (at_ + (max 0 (-min 0 (l + r * (at_ - aa))) + r - 1) / r))) (v := .int .i64 (max free (at_ + (max 0 (-min 0 (l + r * (at_ - aa))) + r - 1) / r))) hF1 (by kernel_rfl) (fun _ => by kernel_rfl) rfl fun a1 hF1 => ?_
                    refine wpQuiet_nil ?_
                    intro w hM
                    refine wl (sStore (i := 6) (off := 0) (cs' := #[.int .i64 (max free (at_ + (max 0 (-min 0 (l + r * (at_ - aa))) + r - 1) / r) + size * p), .int .i64 (min 0 (l + r * (at_ - aa)) + r * (max free (at_ + (max 0 (-min 0 (l + r * (at_ - aa))) + r - 1) / r) - at_) + (r * p - 1048576) * size)]) hF1 hM (by kernel_rfl) rfl rfl (by kernel_rfl) (by kernel_rfl) rfl (by kernel_rfl) fun w hM => ?_)
                    refine wpList_nil ?_
                    refine hK55 _ _ ?_
                    refine wp_ret ?_
                    refine hR19 _ _ ?_
                    refine ret_of hF1 hM (.tmp rfl (.cell (i := 6) rfl rfl (v := .agg #[.int .i64 (max free (at_ + (max 0 (-min 0 (l + r * (at_ - aa))) + r - 1) / r) + size * p), .int .i64 (min 0 (l + r * (at_ - aa)) + r * (max free (at_ + (max 0 (-min 0 (l + r * (at_ - aa))) + r - 1) / r) - at_) + (r * p - 1048576) * size)]) (by kernel_rfl) (.nil))) ⟨_, rfl, ?_⟩
                    intro a hF
                    refine sB 4 [(44, .tuple #[.int .i64 (max free (at_ + (max 0 (-min 0 (l + r * (at_ - aa))) + r - 1) / r)), .agg #[.int .i64 (max free (at_ + (max 0 (-min 0 (l + r * (at_ - aa))) + r - 1) / r) + size * p), .int .i64 (min 0 (l + r * (at_ - aa)) + r * (max free (at_ + (max 0 (-min 0 (l + r * (at_ - aa))) + r - 1) / r) - at_) + (r * p - 1048576) * size)]]), (51, .int .i64 (max free (at_ + (max 0 (-min 0 (l + r * (at_ - aa))) + r - 1) / r))), (52, .agg #[.int .i64 (max free (at_ + (max 0 (-min 0 (l + r * (at_ - aa))) + r - 1) / r) + size * p), .int .i64 (min 0 (l + r * (at_ - aa)) + r * (max free (at_ + (max 0 (-min 0 (l + r * (at_ - aa))) + r - 1) / r) - at_) + (r * p - 1048576) * size)]), (10, .int .i64 (max free (at_ + (max 0 (-min 0 (l + r * (at_ - aa))) + r - 1) / r)))] hF (by kernel_rfl) fun a hF => ?_
                    refine wl (sStore (i := 3) (off := 0) (cs' := #[.int .i64 (max free (at_ + (max 0 (-min 0 (l + r * (at_ - aa))) + r - 1) / r) + size * p), .int .i64 (min 0 (l + r * (at_ - aa)) + r * (max free (at_ + (max 0 (-min 0 (l + r * (at_ - aa))) + r - 1) / r) - at_) + (r * p - 1048576) * size)]) hF hM (by kernel_rfl) rfl rfl (by kernel_rfl) (by kernel_rfl) rfl (by kernel_rfl) fun w hM => ?_)
                    refine wpList_nil ?_
                    refine hK18 _ _ ?_
                    refine wp_seq_k fun K56 hK56 => ?_
                    refine wp_seq_k fun K57 hK57 => ?_
                    refine wp_region_lit ?_
                    refine wl (eL 53 3 0 (v := .agg #[.int .i64 (max free (at_ + (max 0 (-min 0 (l + r * (at_ - aa))) + r - 1) / r) + size * p), .int .i64 (min 0 (l + r * (at_ - aa)) + r * (max free (at_ + (max 0 (-min 0 (l + r * (at_ - aa))) + r - 1) / r) - at_) + (r * p - 1048576) * size)]) hF hM (by kernel_rfl) rfl rfl (by kernel_rfl) (by kernel_rfl) fun a w hF hM => ?_)
                    refine wl (eM 54 (v := .int .i64 (stateE (max free (at_ + (max 0 (-min 0 (l + r * (at_ - aa))) + r - 1) / r) + size * p) (min 0 (l + r * (at_ - aa)) + r * (max free (at_ + (max 0 (-min 0 (l + r * (at_ - aa))) + r - 1) / r) - at_) + (r * p - 1048576) * size))) hF hM (by kernel_rfl) (yld_call (f := 18) (args := #[.agg #[.int .i64 (max free (at_ + (max 0 (-min 0 (l + r * (at_ - aa))) + r - 1) / r) + size * p), .int .i64 (min 0 (l + r * (at_ - aa)) + r * (max free (at_ + (max 0 (-min 0 (l + r * (at_ - aa))) + r - 1) / r) - at_) + (r * p - 1048576) * size)]]) hF (by kernel_rfl) (fun _ => by kernel_rfl) (fun w hM => crState_w (max free (at_ + (max 0 (-min 0 (l + r * (at_ - aa))) + r - 1) / r) + size * p) (min 0 (l + r * (at_ - aa)) + r * (max free (at_ + (max 0 (-min 0 (l + r * (at_ - aa))) + r - 1) / r) - at_) + (r * p - 1048576) * size) w)) fun a w hF hM => ?_)
                    refine sB 1 [(55, .bool (!decide (stateE (max free (at_ + (max 0 (-min 0 (l + r * (at_ - aa))) + r - 1) / r) + size * p) (min 0 (l + r * (at_ - aa)) + r * (max free (at_ + (max 0 (-min 0 (l + r * (at_ - aa))) + r - 1) / r) - at_) + (r * p - 1048576) * size) = 0)))] hF (by kernel_rfl) fun a hF => ?_
                    refine wpList_nil ?_
                    refine hK57 _ _ ?_
                    by_cases hz23 : stateE (max free (at_ + (max 0 (-min 0 (l + r * (at_ - aa))) + r - 1) / r) + size * p) (min 0 (l + r * (at_ - aa)) + r * (max free (at_ + (max 0 (-min 0 (l + r * (at_ - aa))) + r - 1) / r) - at_) + (r * p - 1048576) * size) = 0
                    · skip
                      have hz24 := stateE_ok hz23
                      replace hF := hF.c hF (i := 55) (v := .bool false) rfl (nT hz23)
                      refine cF hF (by kernel_rfl) (by kernel_rfl) ?_
                      refine wp_skip ?_
                      refine hK56 _ _ ?_
                      refine wp_seq_k fun K58 hK58 => ?_
                      refine rT 3 (by kernel_rfl) (by kernel_rfl) hM.drew ?_
                      refine eQ 57 (v0 := .int .i64 (max free (at_ + (max 0 (-min 0 (l + r * (at_ - aa))) + r - 1) / r))) (v := .int .i64 (max free (at_ + (max 0 (-min 0 (l + r * (at_ - aa))) + r - 1) / r))) hF (by kernel_rfl) (fun _ => by kernel_rfl) rfl fun a hF => ?_
                      refine eQL 58 3 0 (v := .agg #[.int .i64 (max free (at_ + (max 0 (-min 0 (l + r * (at_ - aa))) + r - 1) / r) + size * p), .int .i64 (min 0 (l + r * (at_ - aa)) + r * (max free (at_ + (max 0 (-min 0 (l + r * (at_ - aa))) + r - 1) / r) - at_) + (r * p - 1048576) * size)]) hF (by kernel_rfl) rfl rfl (by kernel_rfl) (by kernel_rfl) fun a hF => ?_
                      refine eQ 10 (v0 := .int .i64 (max free (at_ + (max 0 (-min 0 (l + r * (at_ - aa))) + r - 1) / r))) (v := .int .i64 (max free (at_ + (max 0 (-min 0 (l + r * (at_ - aa))) + r - 1) / r))) hF (by kernel_rfl) (fun _ => by kernel_rfl) rfl fun a hF => ?_
                      refine wpQuiet_nil ?_
                      intro w hM
                      refine wl (sStore (i := 3) (off := 0) (cs' := #[.int .i64 (max free (at_ + (max 0 (-min 0 (l + r * (at_ - aa))) + r - 1) / r) + size * p), .int .i64 (min 0 (l + r * (at_ - aa)) + r * (max free (at_ + (max 0 (-min 0 (l + r * (at_ - aa))) + r - 1) / r) - at_) + (r * p - 1048576) * size)]) hF hM (by kernel_rfl) rfl rfl (by kernel_rfl) (by kernel_rfl) rfl (by kernel_rfl) fun w hM => ?_)
                      refine sB 1 [(12, .int .i64 0)] hF (by kernel_rfl) fun a hF => ?_
                      refine wpList_nil ?_
                      refine hK58 _ _ ?_
                      refine wp_ret ?_
                      refine hR0 _ _ ?_
                      refine ret_of hF hM (.tmp rfl (.cell (i := 3) rfl rfl (v := .agg #[.int .i64 (max free (at_ + (max 0 (-min 0 (l + r * (at_ - aa))) + r - 1) / r) + size * p), .int .i64 (min 0 (l + r * (at_ - aa)) + r * (max free (at_ + (max 0 (-min 0 (l + r * (at_ - aa))) + r - 1) / r) - at_) + (r * p - 1048576) * size)]) (by kernel_rfl) (.tmp rfl (.nil)))) ?_
                      have hst := step_gt (r := r) (p := p) (a := aa) (l := l) (at_ := at_) (free := free) (size := size) hz11
                      have hA : stepAt r p aa l at_ free size = stepStart r aa l at_ free + size * p := rfl
                      have hL := hst.2
                      rw [hst.1] at hA hL
                      have he : cstE r p aa l at_ free size = 0 := by unfold cstE; rw [if_pos hz1, if_pos hz3, if_pos (by omega), hA, hL, if_pos hz23]
                      refine ⟨ret_eq ?_, hM.bel⟩
                      unfold cstS cstA cstL; rw [he, if_pos rfl, if_pos rfl, if_pos rfl, hA, hL, hst.1]; rfl
                    · skip
                      replace hF := hF.c hF (i := 55) (v := .bool true) rfl (nF hz23)
                      refine cT hF (by kernel_rfl) (by kernel_rfl) ?_
                      refine wp_seq_k fun K59 hK59 => ?_
                      refine wp_region_lit ?_
                      refine sB 2 [(56, .agg #[.int .i64 0, .int .i64 0]), (10, .int .i64 0)] hF (by kernel_rfl) fun a hF => ?_
                      refine wl (sStore (i := 3) (off := 0) (cs' := #[.int .i64 0, .int .i64 0]) hF hM (by kernel_rfl) rfl rfl (by kernel_rfl) (by kernel_rfl) rfl (by kernel_rfl) fun w hM => ?_)
                      refine sB 1 [(12, .int .i64 6)] hF (by kernel_rfl) fun a hF => ?_
                      refine wpList_nil ?_
                      refine hK59 _ _ ?_
                      refine wp_ret ?_
                      refine hR0 _ _ ?_
                      refine ret_of hF hM (.tmp rfl (.cell (i := 3) rfl rfl (v := .agg #[.int .i64 0, .int .i64 0]) (by kernel_rfl) (.tmp rfl (.nil)))) ?_
                      have hst := step_gt (r := r) (p := p) (a := aa) (l := l) (at_ := at_) (free := free) (size := size) hz11
                      have hA : stepAt r p aa l at_ free size = stepStart r aa l at_ free + size * p := rfl
                      have hL := hst.2
                      rw [hst.1] at hA hL
                      have he : cstE r p aa l at_ free size = 6 := by unfold cstE; rw [if_pos hz1, if_pos hz3, if_pos (by omega), hA, hL, if_neg hz23]
                      refine ⟨ret_eq ?_, hM.bel⟩
                      unfold cstS cstA cstL; rw [he, if_neg (by decide), if_neg (by decide), if_neg (by decide)]; rfl
            · skip
              replace hF := hF.c hF (i := 32) (v := .bool false) rfl (bF hz8)
              replace hF := hF.c hF (i := 33) (v := .bool true) rfl (nF hz8)
              replace hF := hF.c hF (i := 34) (v := .bool true) rfl (nF hz8)
              replace hF := hF.c hF (i := 35) (v := .bool true) rfl (nF hz8)
              refine sB 7 [(36, undef), (37, undef), (38, .bool true), (39, .bool true), (40, undef), (41, undef), (42, .bool true)] hF (by kernel_rfl) fun a hF => ?_
              refine wpList_nil ?_
              refine hK9 _ _ ?_
              refine cT hF (by kernel_rfl) (by kernel_rfl) ?_
              refine wp_seq_k fun K60 hK60 => ?_
              refine wp_region_lit ?_
              refine sB 2 [(43, .agg #[.int .i64 0, .int .i64 0]), (10, .int .i64 0)] hF (by kernel_rfl) fun a hF => ?_
              refine wl (sStore (i := 3) (off := 0) (cs' := #[.int .i64 0, .int .i64 0]) hF hM (by kernel_rfl) rfl rfl (by kernel_rfl) (by kernel_rfl) rfl (by kernel_rfl) fun w hM => ?_)
              refine sB 1 [(12, .int .i64 2)] hF (by kernel_rfl) fun a hF => ?_
              refine wpList_nil ?_
              refine hK60 _ _ ?_
              refine wp_ret ?_
              refine hR0 _ _ ?_
              refine ret_of hF hM (.tmp rfl (.cell (i := 3) rfl rfl (v := .agg #[.int .i64 0, .int .i64 0]) (by kernel_rfl) (.tmp rfl (.nil)))) ?_
              have he : cstE r p aa l at_ free size = 2 := by unfold cstE; rw [if_pos hz1, if_pos hz3, if_neg (by omega)]
              have hn : ¬ cstE r p aa l at_ free size = 0 := by rw [he]; first | omega | assumption
              refine ⟨ret_eq ?_, hM.bel⟩
              unfold cstS cstA cstL; rw [if_neg hn, if_neg hn, if_neg hn, he]; rfl
          · skip
            refine wp_region_lit ?_
            refine sB 1 [(3, .int .i64 free)] hF1 (by kernel_rfl) fun a1 hF1 => ?_
            refine wl (eP 4 (v0 := .bool (decide (0 ≤ free))) (v := .bool false) hF1 (by kernel_rfl) (fun _ => by kernel_rfl) (bF hz7) fun a1 hF1 => ?_)
            refine sB 5 [(5, .bool false), (6, undef), (7, undef), (8, .bool false), (2, .bool false)] hF1 (by kernel_rfl) fun a1 hF1 => ?_
            refine wpList_nil ?_
            refine hK15 _ _ ?_
            refine wp_ret ?_
            refine hR13 _ _ ?_
            refine ret_of hF1 hM (.tmp rfl (.nil)) ⟨_, rfl, ?_⟩
            intro a hF
            refine sB 10 [(33, .bool true), (34, .bool true), (35, .bool true), (36, undef), (37, undef), (38, .bool true), (39, .bool true), (40, undef), (41, undef), (42, .bool true)] hF (by kernel_rfl) fun a hF => ?_
            refine wpList_nil ?_
            refine hK9 _ _ ?_
            refine cT hF (by kernel_rfl) (by kernel_rfl) ?_
            refine wp_seq_k fun K61 hK61 => ?_
            refine wp_region_lit ?_
            refine sB 2 [(43, .agg #[.int .i64 0, .int .i64 0]), (10, .int .i64 0)] hF (by kernel_rfl) fun a hF => ?_
            refine wl (sStore (i := 3) (off := 0) (cs' := #[.int .i64 0, .int .i64 0]) hF hM (by kernel_rfl) rfl rfl (by kernel_rfl) (by kernel_rfl) rfl (by kernel_rfl) fun w hM => ?_)
            refine sB 1 [(12, .int .i64 2)] hF (by kernel_rfl) fun a hF => ?_
            refine wpList_nil ?_
            refine hK61 _ _ ?_
            refine wp_ret ?_
            refine hR0 _ _ ?_
            refine ret_of hF hM (.tmp rfl (.cell (i := 3) rfl rfl (v := .agg #[.int .i64 0, .int .i64 0]) (by kernel_rfl) (.tmp rfl (.nil)))) ?_
            have he : cstE r p aa l at_ free size = 2 := by unfold cstE; rw [if_pos hz1, if_pos hz3, if_neg (by omega)]
            have hn : ¬ cstE r p aa l at_ free size = 0 := by rw [he]; first | omega | assumption
            refine ⟨ret_eq ?_, hM.bel⟩
            unfold cstS cstA cstL; rw [if_neg hn, if_neg hn, if_neg hn, he]; rfl
        · skip
          replace hF := hF.c hF (i := 28) (v := .bool false) rfl (bF hz6)
          replace hF := hF.c hF (i := 29) (v := .bool true) rfl (nF hz6)
          replace hF := hF.c hF (i := 30) (v := .bool true) rfl (nF hz6)
          refine sB 12 [(31, undef), (32, undef), (33, undef), (34, .bool true), (35, .bool true), (36, undef), (37, undef), (38, .bool true), (39, .bool true), (40, undef), (41, undef), (42, .bool true)] hF (by kernel_rfl) fun a hF => ?_
          refine wpList_nil ?_
          refine hK9 _ _ ?_
          refine cT hF (by kernel_rfl) (by kernel_rfl) ?_
          refine wp_seq_k fun K62 hK62 => ?_
          refine wp_region_lit ?_
          refine sB 2 [(43, .agg #[.int .i64 0, .int .i64 0]), (10, .int .i64 0)] hF (by kernel_rfl) fun a hF => ?_
          refine wl (sStore (i := 3) (off := 0) (cs' := #[.int .i64 0, .int .i64 0]) hF hM (by kernel_rfl) rfl rfl (by kernel_rfl) (by kernel_rfl) rfl (by kernel_rfl) fun w hM => ?_)
          refine sB 1 [(12, .int .i64 2)] hF (by kernel_rfl) fun a hF => ?_
          refine wpList_nil ?_
          refine hK62 _ _ ?_
          refine wp_ret ?_
          refine hR0 _ _ ?_
          refine ret_of hF hM (.tmp rfl (.cell (i := 3) rfl rfl (v := .agg #[.int .i64 0, .int .i64 0]) (by kernel_rfl) (.tmp rfl (.nil)))) ?_
          have he : cstE r p aa l at_ free size = 2 := by unfold cstE; rw [if_pos hz1, if_pos hz3, if_neg (by omega)]
          have hn : ¬ cstE r p aa l at_ free size = 0 := by rw [he]; first | omega | assumption
          refine ⟨ret_eq ?_, hM.bel⟩
          unfold cstS cstA cstL; rw [if_neg hn, if_neg hn, if_neg hn, he]; rfl
      · skip
        refine wp_region_lit ?_
        refine sB 1 [(3, .int .i64 at_)] hF1 (by kernel_rfl) fun a1 hF1 => ?_
        refine wl (eP 4 (v0 := .bool (decide (0 ≤ at_))) (v := .bool false) hF1 (by kernel_rfl) (fun _ => by kernel_rfl) (bF hz5) fun a1 hF1 => ?_)
        refine sB 5 [(5, .bool false), (6, undef), (7, undef), (8, .bool false), (2, .bool false)] hF1 (by kernel_rfl) fun a1 hF1 => ?_
        refine wpList_nil ?_
        refine hK12 _ _ ?_
        refine wp_ret ?_
        refine hR10 _ _ ?_
        refine ret_of hF1 hM (.tmp rfl (.nil)) ⟨_, rfl, ?_⟩
        intro a hF
        refine sB 14 [(29, .bool true), (30, .bool true), (31, undef), (32, undef), (33, undef), (34, .bool true), (35, .bool true), (36, undef), (37, undef), (38, .bool true), (39, .bool true), (40, undef), (41, undef), (42, .bool true)] hF (by kernel_rfl) fun a hF => ?_
        refine wpList_nil ?_
        refine hK9 _ _ ?_
        refine cT hF (by kernel_rfl) (by kernel_rfl) ?_
        refine wp_seq_k fun K63 hK63 => ?_
        refine wp_region_lit ?_
        refine sB 2 [(43, .agg #[.int .i64 0, .int .i64 0]), (10, .int .i64 0)] hF (by kernel_rfl) fun a hF => ?_
        refine wl (sStore (i := 3) (off := 0) (cs' := #[.int .i64 0, .int .i64 0]) hF hM (by kernel_rfl) rfl rfl (by kernel_rfl) (by kernel_rfl) rfl (by kernel_rfl) fun w hM => ?_)
        refine sB 1 [(12, .int .i64 2)] hF (by kernel_rfl) fun a hF => ?_
        refine wpList_nil ?_
        refine hK63 _ _ ?_
        refine wp_ret ?_
        refine hR0 _ _ ?_
        refine ret_of hF hM (.tmp rfl (.cell (i := 3) rfl rfl (v := .agg #[.int .i64 0, .int .i64 0]) (by kernel_rfl) (.tmp rfl (.nil)))) ?_
        have he : cstE r p aa l at_ free size = 2 := by unfold cstE; rw [if_pos hz1, if_pos hz3, if_neg (by omega)]
        have hn : ¬ cstE r p aa l at_ free size = 0 := by rw [he]; first | omega | assumption
        refine ⟨ret_eq ?_, hM.bel⟩
        unfold cstS cstA cstL; rw [if_neg hn, if_neg hn, if_neg hn, he]; rfl
    · skip
      replace hF := hF.c hF (i := 24) (v := .bool true) rfl (nF hz3)
      refine cT hF (by kernel_rfl) (by kernel_rfl) ?_
      refine wp_seq_k fun K64 hK64 => ?_
      refine wp_region_lit ?_
      refine sB 3 [(25, .agg #[.int .i64 0, .int .i64 0]), (26, .int .i64 (stateE aa l)), (10, .int .i64 0)] hF (by kernel_rfl) fun a hF => ?_
      refine wl (sStore (i := 3) (off := 0) (cs' := #[.int .i64 0, .int .i64 0]) hF hM (by kernel_rfl) rfl rfl (by kernel_rfl) (by kernel_rfl) rfl (by kernel_rfl) fun w hM => ?_)
      refine sB 1 [(12, .int .i64 (stateE aa l))] hF (by kernel_rfl) fun a hF => ?_
      refine wpList_nil ?_
      refine hK64 _ _ ?_
      refine wp_ret ?_
      refine hR0 _ _ ?_
      refine ret_of hF hM (.tmp rfl (.cell (i := 3) rfl rfl (v := .agg #[.int .i64 0, .int .i64 0]) (by kernel_rfl) (.tmp rfl (.nil)))) ?_
      have he : cstE r p aa l at_ free size = stateE aa l := by unfold cstE; rw [if_pos hz1, if_neg hz3, stateE_450 hz3]
      have hn : ¬ cstE r p aa l at_ free size = 0 := by rw [he]; first | omega | assumption
      refine ⟨ret_eq ?_, hM.bel⟩
      unfold cstS cstA cstL; rw [if_neg hn, if_neg hn, if_neg hn, he]; rfl
  · skip
    replace hF := hF.c hF (i := 18) (v := .bool true) rfl (nF hz1)
    refine cT hF (by kernel_rfl) (by kernel_rfl) ?_
    refine wp_seq_k fun K65 hK65 => ?_
    refine wp_region_lit ?_
    refine sB 3 [(19, .agg #[.int .i64 0, .int .i64 0]), (20, .int .i64 (slopeE r p)), (10, .int .i64 0)] hF (by kernel_rfl) fun a hF => ?_
    refine wl (sStore (i := 3) (off := 0) (cs' := #[.int .i64 0, .int .i64 0]) hF hM (by kernel_rfl) rfl rfl (by kernel_rfl) (by kernel_rfl) rfl (by kernel_rfl) fun w hM => ?_)
    refine sB 1 [(12, .int .i64 (slopeE r p))] hF (by kernel_rfl) fun a hF => ?_
    refine wpList_nil ?_
    refine hK65 _ _ ?_
    refine wp_ret ?_
    refine hR0 _ _ ?_
    refine ret_of hF hM (.tmp rfl (.cell (i := 3) rfl rfl (v := .agg #[.int .i64 0, .int .i64 0]) (by kernel_rfl) (.tmp rfl (.nil)))) ?_
    have he : cstE r p aa l at_ free size = slopeE r p := by unfold cstE; rw [if_neg hz1, slopeE_450 hz1]
    have hn : ¬ cstE r p aa l at_ free size = 0 := by rw [he]; first | omega | assumption
    refine ⟨ret_eq ?_, hM.bel⟩
    unfold cstS cstA cstL; rw [if_neg hn, if_neg hn, if_neg hn, he]; rfl

end Go.Proofs.Ytjepnlebmgkomaa
