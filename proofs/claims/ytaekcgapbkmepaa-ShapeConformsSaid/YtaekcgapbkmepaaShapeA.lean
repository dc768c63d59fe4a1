/-
  Contracts of package shape: New, Check, eligible.
-/
import Derived.Test.YtaekcgapbkmepaaShapePlain
import Derived.Test.YtaekcgapbkmepaaNumC
import Derived.Test.YtaekcgapbkmepaaBk
import Derived.Test.YtaekcgapbkmepaaFlat
import Derived.Test.YtaekcgapbkmepaaDrainPlain2
namespace Go.Proofs.Ytaekcgapbkmepaa
open Go.RowKit
set_option linter.unusedVariables false
set_option linter.unusedSimpArgs false

theorem right_yes (b r : Int) (w0 : World) (h : bkE b r = 0) :
    Calls Try.prog 27 #[.agg #[.int .i64 b, .int .i64 r]] w0 (Ret w0 (.bool true)) := by
  have h := bkE_ok h
  refine enterK 21 Try.func27 rfl rfl rfl ?_
  intro a hF Q0 hR0 hN0
  have hM := Mem.start w0
  refine wp_seq_k fun K1 hK1 => ?_
  refine wp_region_lit ?_
  refine wl (eN 1 1 (t := 23) (fun b => .pointer (some ⟨b, 0, none⟩)) #[.int .i64 b, .int .i64 r] hF hM (by kernel_rfl) (fun _ => by kernel_rfl) fun bb1 a w hF hM => ?_)
  refine sB 1 [(2, .bool false)] hF (by kernel_rfl) fun a hF => ?_
  refine wpList_nil ?_
  refine hK1 _ _ ?_
  refine wp_seq_k fun K2 hK2 => ?_
  refine wp_region_lit ?_
  refine sB 1 [(3, .pointer (some ⟨bb1, 0, none⟩))] hF (by kernel_rfl) fun a hF => ?_
  refine wl (eL 4 1 0 (v := .int .i64 b) hF hM (by kernel_rfl) rfl rfl (by kernel_rfl) (by kernel_rfl) fun a w hF hM => ?_)
  refine wl (eP 5 (v0 := .bool (decide (1 ≤ b))) (v := .bool true) hF (by kernel_rfl) (fun _ => by kernel_rfl) (bT (by omega)) fun a hF => ?_)
  refine sB 2 [(6, .bool true), (7, .pointer (some ⟨bb1, 0, none⟩))] hF (by kernel_rfl) fun a hF => ?_
  refine wl (eL 8 1 0 (v := .int .i64 b) hF hM (by kernel_rfl) rfl rfl (by kernel_rfl) (by kernel_rfl) fun a w hF hM => ?_)
  refine wl (eP 9 (v0 := .bool (decide (b ≤ 1048576))) (v := .bool true) hF (by kernel_rfl) (fun _ => by kernel_rfl) (bT (by omega)) fun a hF => ?_)
  refine sB 3 [(10, .bool true), (11, .bool true), (12, .pointer (some ⟨bb1, 1, none⟩))] hF (by kernel_rfl) fun a hF => ?_
  refine wl (eL 13 1 1 (v := .int .i64 r) hF hM (by kernel_rfl) rfl rfl (by kernel_rfl) (by kernel_rfl) fun a w hF hM => ?_)
  refine wl (eP 14 (v0 := .bool (decide (1 ≤ r))) (v := .bool true) hF (by kernel_rfl) (fun _ => by kernel_rfl) (bT (by omega)) fun a hF => ?_)
  refine sB 3 [(15, .bool true), (16, .bool true), (17, .pointer (some ⟨bb1, 1, none⟩))] hF (by kernel_rfl) fun a hF => ?_
  refine wl (eL 18 1 1 (v := .int .i64 r) hF hM (by kernel_rfl) rfl rfl (by kernel_rfl) (by kernel_rfl) fun a w hF hM => ?_)
  refine wl (eP 19 (v0 := .bool (decide (r ≤ 2097152))) (v := .bool true) hF (by kernel_rfl) (fun _ => by kernel_rfl) (bT (by omega)) fun a hF => ?_)
  refine sB 2 [(20, .bool true), (2, .bool true)] hF (by kernel_rfl) fun a hF => ?_
  refine wpList_nil ?_
  refine hK2 _ _ ?_
  refine wp_ret ?_
  refine hR0 _ _ ?_
  refine ret_of hF hM (.tmp rfl (.nil)) ?_
  exact ⟨rfl, hM.bel⟩

theorem right_no (b r : Int) (w0 : World) (h : ¬ bkE b r = 0) :
    Calls Try.prog 27 #[.agg #[.int .i64 b, .int .i64 r]] w0 (Ret w0 (.bool false)) := by
  refine enterK 21 Try.func27 rfl rfl rfl ?_
  intro a hF Q0 hR0 hN0
  have hM := Mem.start w0
  refine wp_seq_k fun K1 hK1 => ?_
  refine wp_region_lit ?_
  refine wl (eN 1 1 (t := 23) (fun b => .pointer (some ⟨b, 0, none⟩)) #[.int .i64 b, .int .i64 r] hF hM (by kernel_rfl) (fun _ => by kernel_rfl) fun bb1 a w hF hM => ?_)
  refine sB 1 [(2, .bool false)] hF (by kernel_rfl) fun a hF => ?_
  refine wpList_nil ?_
  refine hK1 _ _ ?_
  refine wp_seq_k fun K2 hK2 => ?_
  by_cases hz1 : 1 ≤ b
  · skip
    by_cases hz2 : b ≤ 1048576
    · skip
      by_cases hz3 : 1 ≤ r
      · skip
        refine wp_region_lit ?_
        refine sB 1 [(3, .pointer (some ⟨bb1, 0, none⟩))] hF (by kernel_rfl) fun a hF => ?_
        refine wl (eL 4 1 0 (v := .int .i64 b) hF hM (by kernel_rfl) rfl rfl (by kernel_rfl) (by kernel_rfl) fun a w hF hM => ?_)
        refine wl (eP 5 (v0 := .bool (decide (1 ≤ b))) (v := .bool true) hF (by kernel_rfl) (fun _ => by kernel_rfl) (bT hz1) fun a hF => ?_)
        refine sB 2 [(6, .bool true), (7, .pointer (some ⟨bb1, 0, none⟩))] hF (by kernel_rfl) fun a hF => ?_
        refine wl (eL 8 1 0 (v := .int .i64 b) hF hM (by kernel_rfl) rfl rfl (by kernel_rfl) (by kernel_rfl) fun a w hF hM => ?_)
        refine wl (eP 9 (v0 := .bool (decide (b ≤ 1048576))) (v := .bool true) hF (by kernel_rfl) (fun _ => by kernel_rfl) (bT hz2) fun a hF => ?_)
        refine sB 3 [(10, .bool true), (11, .bool true), (12, .pointer (some ⟨bb1, 1, none⟩))] hF (by kernel_rfl) fun a hF => ?_
        refine wl (eL 13 1 1 (v := .int .i64 r) hF hM (by kernel_rfl) rfl rfl (by kernel_rfl) (by kernel_rfl) fun a w hF hM => ?_)
        refine wl (eP 14 (v0 := .bool (decide (1 ≤ r))) (v := .bool true) hF (by kernel_rfl) (fun _ => by kernel_rfl) (bT hz3) fun a hF => ?_)
        refine sB 3 [(15, .bool true), (16, .bool true), (17, .pointer (some ⟨bb1, 1, none⟩))] hF (by kernel_rfl) fun a hF => ?_
        refine wl (eL 18 1 1 (v := .int .i64 r) hF hM (by kernel_rfl) rfl rfl (by kernel_rfl) (by kernel_rfl) fun a w hF hM => ?_)
        refine sB 3 [(19, .bool (decide (r ≤ 2097152))), (20, .bool (decide (r ≤ 2097152))), (2, .bool (decide (r ≤ 2097152)))] hF (by kernel_rfl) fun a hF => ?_
        refine wpList_nil ?_
        refine hK2 _ _ ?_
        refine wp_ret ?_
        refine hR0 _ _ ?_
        refine ret_of hF hM (.tmp rfl (.nil)) ?_
        exact ⟨ret_bool (decide_eq_false (by unfold bkE at h; omega)), hM.bel⟩
      · skip
        refine wp_region_lit ?_
        refine sB 1 [(3, .pointer (some ⟨bb1, 0, none⟩))] hF (by kernel_rfl) fun a hF => ?_
        refine wl (eL 4 1 0 (v := .int .i64 b) hF hM (by kernel_rfl) rfl rfl (by kernel_rfl) (by kernel_rfl) fun a w hF hM => ?_)
        refine wl (eP 5 (v0 := .bool (decide (1 ≤ b))) (v := .bool true) hF (by kernel_rfl) (fun _ => by kernel_rfl) (bT hz1) fun a hF => ?_)
        refine sB 2 [(6, .bool true), (7, .pointer (some ⟨bb1, 0, none⟩))] hF (by kernel_rfl) fun a hF => ?_
        refine wl (eL 8 1 0 (v := .int .i64 b) hF hM (by kernel_rfl) rfl rfl (by kernel_rfl) (by kernel_rfl) fun a w hF hM => ?_)
        refine wl (eP 9 (v0 := .bool (decide (b ≤ 1048576))) (v := .bool true) hF (by kernel_rfl) (fun _ => by kernel_rfl) (bT hz2) fun a hF => ?_)
        refine sB 3 [(10, .bool true), (11, .bool true), (12, .pointer (some ⟨bb1, 1, none⟩))] hF (by kernel_rfl) fun a hF => ?_
        refine wl (eL 13 1 1 (v := .int .i64 r) hF hM (by kernel_rfl) rfl rfl (by kernel_rfl) (by kernel_rfl) fun a w hF hM => ?_)
        refine wl (eP 14 (v0 := .bool (decide (1 ≤ r))) (v := .bool false) hF (by kernel_rfl) (fun _ => by kernel_rfl) (bF hz3) fun a hF => ?_)
        refine sB 7 [(15, .bool false), (16, .bool false), (17, undef), (18, undef), (19, undef), (20, .bool false), (2, .bool false)] hF (by kernel_rfl) fun a hF => ?_
        refine wpList_nil ?_
        refine hK2 _ _ ?_
        refine wp_ret ?_
        refine hR0 _ _ ?_
        refine ret_of hF hM (.tmp rfl (.nil)) ?_
        exact ⟨rfl, hM.bel⟩
    · skip
      refine wp_region_lit ?_
      refine sB 1 [(3, .pointer (some ⟨bb1, 0, none⟩))] hF (by kernel_rfl) fun a hF => ?_
      refine wl (eL 4 1 0 (v := .int .i64 b) hF hM (by kernel_rfl) rfl rfl (by kernel_rfl) (by kernel_rfl) fun a w hF hM => ?_)
      refine wl (eP 5 (v0 := .bool (decide (1 ≤ b))) (v := .bool true) hF (by kernel_rfl) (fun _ => by kernel_rfl) (bT hz1) fun a hF => ?_)
      refine sB 2 [(6, .bool true), (7, .pointer (some ⟨bb1, 0, none⟩))] hF (by kernel_rfl) fun a hF => ?_
      refine wl (eL 8 1 0 (v := .int .i64 b) hF hM (by kernel_rfl) rfl rfl (by kernel_rfl) (by kernel_rfl) fun a w hF hM => ?_)
      refine wl (eP 9 (v0 := .bool (decide (b ≤ 1048576))) (v := .bool false) hF (by kernel_rfl) (fun _ => by kernel_rfl) (bF hz2) fun a hF => ?_)
      refine sB 12 [(10, .bool false), (11, .bool false), (12, undef), (13, undef), (14, undef), (15, .bool false), (16, .bool false), (17, undef), (18, undef), (19, undef), (20, .bool false), (2, .bool false)] hF (by kernel_rfl) fun a hF => ?_
      refine wpList_nil ?_
      refine hK2 _ _ ?_
      refine wp_ret ?_
      refine hR0 _ _ ?_
      refine ret_of hF hM (.tmp rfl (.nil)) ?_
      exact ⟨rfl, hM.bel⟩
  · skip
    refine wp_region_lit ?_
    refine sB 1 [(3, .pointer (some ⟨bb1, 0, none⟩))] hF (by kernel_rfl) fun a hF => ?_
    refine wl (eL 4 1 0 (v := .int .i64 b) hF hM (by kernel_rfl) rfl rfl (by kernel_rfl) (by kernel_rfl) fun a w hF hM => ?_)
    refine wl (eP 5 (v0 := .bool (decide (1 ≤ b))) (v := .bool false) hF (by kernel_rfl) (fun _ => by kernel_rfl) (bF hz1) fun a hF => ?_)
    refine sB 16 [(6, .bool false), (7, undef), (8, undef), (9, undef), (10, .bool false), (11, .bool false), (12, undef), (13, undef), (14, undef), (15, .bool false), (16, .bool false), (17, undef), (18, undef), (19, undef), (20, .bool false), (2, .bool false)] hF (by kernel_rfl) fun a hF => ?_
    refine wpList_nil ?_
    refine hK2 _ _ ?_
    refine wp_ret ?_
    refine hR0 _ _ ?_
    refine ret_of hF hM (.tmp rfl (.nil)) ?_
    exact ⟨rfl, hM.bel⟩

theorem cd_to {n d : Int} (hn : 0 ≤ n ∧ n ≤ 1125899906842624) (hd : 1 ≤ d ∧ d ≤ 1125899906842624) {F : FuncId} {vs : Array Value} {w : World} (q : Calls Try.prog F vs w (Ret w (.tuple #[.int .i64 (cdV n d), .bool (fdB n d)]))) : Calls Try.prog F vs w (Ret w (.tuple #[.int .i64 (cq n d), .bool true])) := by
  rw [cq_cd hn hd, show fdB n d = true from decide_eq_true ⟨⟨by omega, by omega⟩, ⟨by omega, by omega⟩, hd.1⟩] at q
  exact q
theorem shNew_w (b r : Int) (w0 : World) :
    Calls Try.prog 10 #[.agg #[.int .i64 b, .int .i64 r]] w0 (Ret w0 (.tuple #[.agg #[.int .i64 0, .int .i64 (snL b r)], .int .i64 (bkE b r)])) := by
  refine enterK 15 Try.func10 rfl rfl rfl ?_
  intro a hF Q0 hR0 hN0
  have hM := Mem.start w0
  refine wp_seq_k fun K1 hK1 => ?_
  refine wp_region_lit ?_
  refine wl (eN 1 1 (t := 23) (fun b => .pointer (some ⟨b, 0, none⟩)) #[.int .i64 b, .int .i64 r] hF hM (by kernel_rfl) (fun _ => by kernel_rfl) fun bb1 a w hF hM => ?_)
  refine wl (eN 2 2 (t := 29) (fun b => .pointer (some ⟨b, 0, none⟩)) #[.int .i64 0, .int .i64 0] hF hM (by kernel_rfl) (fun _ => by kernel_rfl) fun bb2 a w hF hM => ?_)
  refine sB 1 [(3, .int .i64 0)] hF (by kernel_rfl) fun a hF => ?_
  refine wpList_nil ?_
  refine hK1 _ _ ?_
  refine wp_seq_k fun K2 hK2 => ?_
  refine wp_seq_k fun K3 hK3 => ?_
  refine wp_region_lit ?_
  refine wl (eL 5 1 0 (v := .agg #[.int .i64 b, .int .i64 r]) hF hM (by kernel_rfl) rfl rfl (by kernel_rfl) (by kernel_rfl) fun a w hF hM => ?_)
  refine wl (eM 6 (v := .int .i64 (bkE b r)) hF hM (by kernel_rfl) (yld_call (f := 26) (args := #[.agg #[.int .i64 b, .int .i64 r]]) hF (by kernel_rfl) (fun _ => by kernel_rfl) (fun w hM => bkCheck_w b r w)) fun a w hF hM => ?_)
  refine sB 1 [(4, .int .i64 (bkE b r))] hF (by kernel_rfl) fun a hF => ?_
  refine wpList_nil ?_
  refine hK3 _ _ ?_
  refine wp_seq_k fun K4 hK4 => ?_
  refine wp_region_lit ?_
  refine sB 2 [(7, .int .i64 (bkE b r)), (8, .bool (!decide (bkE b r = 0)))] hF (by kernel_rfl) fun a hF => ?_
  refine wpList_nil ?_
  refine hK4 _ _ ?_
  by_cases hz1 : bkE b r = 0
  · skip
    have hz2 := bkE_ok hz1
    replace hF := hF.c hF (i := 8) (v := .bool false) rfl (nT hz1)
    refine cF hF (by kernel_rfl) (by kernel_rfl) ?_
    refine wp_skip ?_
    refine hK2 _ _ ?_
    refine wp_seq_k fun K5 hK5 => ?_
    refine wp_region_lit ?_
    refine sB 1 [(11, .pointer (some ⟨bb1, 0, none⟩))] hF (by kernel_rfl) fun a hF => ?_
    refine wl (eL 12 1 0 (v := .int .i64 b) hF hM (by kernel_rfl) rfl rfl (by kernel_rfl) (by kernel_rfl) fun a w hF hM => ?_)
    refine wl (eP 13 (v0 := .int .i64 (IntKind.i64.wrap (b * 1048576))) (v := .int .i64 (b * 1048576)) hF (by kernel_rfl) (fun _ => by kernel_rfl) (wi (by omega)) fun a hF => ?_)
    refine sB 1 [(14, .agg #[.int .i64 0, .int .i64 (b * 1048576)])] hF (by kernel_rfl) fun a hF => ?_
    refine wl (sStore (i := 2) (off := 0) (cs' := #[.int .i64 0, .int .i64 (b * 1048576)]) hF hM (by kernel_rfl) rfl rfl (by kernel_rfl) (by kernel_rfl) rfl (by kernel_rfl) fun w hM => ?_)
    refine sB 1 [(3, .int .i64 0)] hF (by kernel_rfl) fun a hF => ?_
    refine wpList_nil ?_
    refine hK5 _ _ ?_
    refine wp_ret ?_
    refine hR0 _ _ ?_
    refine ret_of hF hM (.cell (i := 2) rfl rfl (v := .agg #[.int .i64 0, .int .i64 (b * 1048576)]) (by kernel_rfl) (.tmp rfl (.nil))) ?_
    exact ⟨ret_eq (by rw [snL_yes hz1, hz1]; rfl), hM.bel⟩
  · skip
    replace hF := hF.c hF (i := 8) (v := .bool true) rfl (nF hz1)
    refine cT hF (by kernel_rfl) (by kernel_rfl) ?_
    refine wp_seq_k fun K6 hK6 => ?_
    refine wp_region_lit ?_
    refine sB 2 [(9, .agg #[.int .i64 0, .int .i64 0]), (10, .int .i64 (bkE b r))] hF (by kernel_rfl) fun a hF => ?_
    refine wl (sStore (i := 2) (off := 0) (cs' := #[.int .i64 0, .int .i64 0]) hF hM (by kernel_rfl) rfl rfl (by kernel_rfl) (by kernel_rfl) rfl (by kernel_rfl) fun w hM => ?_)
    refine sB 1 [(3, .int .i64 (bkE b r))] hF (by kernel_rfl) fun a hF => ?_
    refine wpList_nil ?_
    refine hK6 _ _ ?_
    refine wp_ret ?_
    refine hR0 _ _ ?_
    refine ret_of hF hM (.cell (i := 2) rfl rfl (v := .agg #[.int .i64 0, .int .i64 0]) (by kernel_rfl) (.tmp rfl (.nil))) ?_
    exact ⟨ret_eq (by rw [snL_no hz1]; rfl), hM.bel⟩

theorem rNew34_w (b r : Int) (w0 : World) :
    Calls Try.prog 11 #[.agg #[.int .i64 b, .int .i64 r]] w0 (Ret w0 (.tuple #[.agg #[.int .i64 0, .int .i64 (snL b r)], .int .i64 (bkE b r)])) := by
  refine enterK 12 Try.func11 rfl rfl rfl ?_
  intro a hF Q0 hR0 hN0
  have hM := Mem.start w0
  refine wp_seq_k fun K1 hK1 => ?_
  refine wp_region_lit ?_
  refine wl (eN 1 1 (t := 23) (fun b => .pointer (some ⟨b, 0, none⟩)) #[.int .i64 b, .int .i64 r] hF hM (by kernel_rfl) (fun _ => by kernel_rfl) fun bb1 a w hF hM => ?_)
  refine wl (eN 2 2 (t := 29) (fun b => .pointer (some ⟨b, 0, none⟩)) #[.int .i64 0, .int .i64 0] hF hM (by kernel_rfl) (fun _ => by kernel_rfl) fun bb2 a w hF hM => ?_)
  refine sB 1 [(3, .int .i64 0)] hF (by kernel_rfl) fun a hF => ?_
  refine wpList_nil ?_
  refine hK1 _ _ ?_
  refine wp_seq_k fun K2 hK2 => ?_
  refine wp_seq_k fun K3 hK3 => ?_
  by_cases hz1 : bkE b r = 0
  · skip
    have hz2 := bkE_ok hz1
    refine wp_region_lit ?_
    refine wl (eL 4 1 0 (v := .agg #[.int .i64 b, .int .i64 r]) hF hM (by kernel_rfl) rfl rfl (by kernel_rfl) (by kernel_rfl) fun a w hF hM => ?_)
    refine wl (eM 5 (v := .bool true) hF hM (by kernel_rfl) (yld_call (f := 27) (args := #[.agg #[.int .i64 b, .int .i64 r]]) hF (by kernel_rfl) (fun _ => by kernel_rfl) (fun w hM => right_yes b r w hz1)) fun a w hF hM => ?_)
    refine sB 1 [(6, .bool false)] hF (by kernel_rfl) fun a hF => ?_
    refine wpList_nil ?_
    refine hK3 _ _ ?_
    refine cF hF (by kernel_rfl) (by kernel_rfl) ?_
    refine wp_skip ?_
    refine hK2 _ _ ?_
    refine wp_seq_k fun K4 hK4 => ?_
    refine wp_region_lit ?_
    refine sB 1 [(8, .pointer (some ⟨bb1, 0, none⟩))] hF (by kernel_rfl) fun a hF => ?_
    refine wl (eL 9 1 0 (v := .int .i64 b) hF hM (by kernel_rfl) rfl rfl (by kernel_rfl) (by kernel_rfl) fun a w hF hM => ?_)
    refine wl (eP 10 (v0 := .int .i64 (IntKind.i64.wrap (b * 1048576))) (v := .int .i64 (b * 1048576)) hF (by kernel_rfl) (fun _ => by kernel_rfl) (wi (by omega)) fun a hF => ?_)
    refine sB 1 [(11, .agg #[.int .i64 0, .int .i64 (b * 1048576)])] hF (by kernel_rfl) fun a hF => ?_
    refine wl (sStore (i := 2) (off := 0) (cs' := #[.int .i64 0, .int .i64 (b * 1048576)]) hF hM (by kernel_rfl) rfl rfl (by kernel_rfl) (by kernel_rfl) rfl (by kernel_rfl) fun w hM => ?_)
    refine sB 1 [(3, .int .i64 0)] hF (by kernel_rfl) fun a hF => ?_
    refine wpList_nil ?_
    refine hK4 _ _ ?_
    refine wp_ret ?_
    refine hR0 _ _ ?_
    refine ret_of hF hM (.cell (i := 2) rfl rfl (v := .agg #[.int .i64 0, .int .i64 (b * 1048576)]) (by kernel_rfl) (.tmp rfl (.nil))) ?_
    exact ⟨ret_eq (by rw [snL_yes hz1, hz1]; rfl), hM.bel⟩
  · skip
    refine wp_region_lit ?_
    refine wl (eL 4 1 0 (v := .agg #[.int .i64 b, .int .i64 r]) hF hM (by kernel_rfl) rfl rfl (by kernel_rfl) (by kernel_rfl) fun a w hF hM => ?_)
    refine wl (eM 5 (v := .bool false) hF hM (by kernel_rfl) (yld_call (f := 27) (args := #[.agg #[.int .i64 b, .int .i64 r]]) hF (by kernel_rfl) (fun _ => by kernel_rfl) (fun w hM => right_no b r w hz1)) fun a w hF hM => ?_)
    refine sB 1 [(6, .bool true)] hF (by kernel_rfl) fun a hF => ?_
    refine wpList_nil ?_
    refine hK3 _ _ ?_
    refine cT hF (by kernel_rfl) (by kernel_rfl) ?_
    refine wp_seq_k fun K5 hK5 => ?_
    refine wp_region_lit ?_
    refine sB 1 [(7, .agg #[.int .i64 0, .int .i64 0])] hF (by kernel_rfl) fun a hF => ?_
    refine wl (sStore (i := 2) (off := 0) (cs' := #[.int .i64 0, .int .i64 0]) hF hM (by kernel_rfl) rfl rfl (by kernel_rfl) (by kernel_rfl) rfl (by kernel_rfl) fun w hM => ?_)
    refine sB 1 [(3, .int .i64 130)] hF (by kernel_rfl) fun a hF => ?_
    refine wpList_nil ?_
    refine hK5 _ _ ?_
    refine wp_ret ?_
    refine hR0 _ _ ?_
    refine ret_of hF hM (.cell (i := 2) rfl rfl (v := .agg #[.int .i64 0, .int .i64 0]) (by kernel_rfl) (.tmp rfl (.nil))) ?_
    exact ⟨ret_eq (by rw [snL_no hz1, bkE_no hz1]; rfl), hM.bel⟩

theorem nw_to {x e x' e' : Int} (h : x = x') (h' : e = e') {F : FuncId} {vs : Array Value} {w : World} (q : Calls Try.prog F vs w (Ret w (.tuple #[.agg #[.int .i64 0, .int .i64 x], .int .i64 e]))) : Calls Try.prog F vs w (Ret w (.tuple #[.agg #[.int .i64 0, .int .i64 x'], .int .i64 e'])) := by
  rw [h, h'] at q
  exact q
theorem shCheck_w (b r la lv : Int) (w0 : World) :
    Calls Try.prog 12 #[.agg #[.int .i64 b, .int .i64 r], .agg #[.int .i64 la, .int .i64 lv]] w0 (Ret w0 (.int .i64 (skE b r la lv))) := by
  refine enterK 30 Try.func12 rfl rfl rfl ?_
  intro a hF Q0 hR0 hN0
  have hM := Mem.start w0
  refine wp_seq_k fun K1 hK1 => ?_
  refine wp_region_lit ?_
  refine wl (eN 2 1 (t := 23) (fun b => .pointer (some ⟨b, 0, none⟩)) #[.int .i64 b, .int .i64 r] hF hM (by kernel_rfl) (fun _ => by kernel_rfl) fun bb1 a w hF hM => ?_)
  refine wl (eN 3 2 (t := 29) (fun b => .pointer (some ⟨b, 0, none⟩)) #[.int .i64 la, .int .i64 lv] hF hM (by kernel_rfl) (fun _ => by kernel_rfl) fun bb2 a w hF hM => ?_)
  refine sB 1 [(4, .int .i64 0)] hF (by kernel_rfl) fun a hF => ?_
  refine wpList_nil ?_
  refine hK1 _ _ ?_
  refine wp_seq_k fun K2 hK2 => ?_
  by_cases hz1 : bkE b r = 0
  · skip
    have hz2 := bkE_ok hz1
    refine wp_region_lit ?_
    refine wl (eL 9 1 0 (v := .agg #[.int .i64 b, .int .i64 r]) hF hM (by kernel_rfl) rfl rfl (by kernel_rfl) (by kernel_rfl) fun a w hF hM => ?_)
    refine wl (eM 10 (v := .tuple #[.agg #[.int .i64 0, .int .i64 (b * 1048576)], .int .i64 0]) hF hM (by kernel_rfl) (yld_call (f := 10) (args := #[.agg #[.int .i64 b, .int .i64 r]]) hF (by kernel_rfl) (fun _ => by kernel_rfl) (fun w hM => nw_to (snL_yes hz1) hz1 (shNew_w b r w))) fun a w hF hM => ?_)
    refine sB 3 [(8, .tuple #[.agg #[.int .i64 0, .int .i64 (b * 1048576)], .int .i64 0]), (11, .agg #[.int .i64 0, .int .i64 (b * 1048576)]), (12, .int .i64 0)] hF (by kernel_rfl) fun a hF => ?_
    refine wl (eN 5 3 (t := 29) (fun b => .pointer (some ⟨b, 0, none⟩)) #[.int .i64 0, .int .i64 0] hF hM (by kernel_rfl) (fun _ => by kernel_rfl) fun bb3 a w hF hM => ?_)
    refine wl (sStore (i := 3) (off := 0) (cs' := #[.int .i64 0, .int .i64 (b * 1048576)]) hF hM (by kernel_rfl) rfl rfl (by kernel_rfl) (by kernel_rfl) rfl (by kernel_rfl) fun w hM => ?_)
    refine sB 1 [(6, .int .i64 0)] hF (by kernel_rfl) fun a hF => ?_
    refine wpList_nil ?_
    refine hK2 _ _ ?_
    refine wp_seq_k fun K3 hK3 => ?_
    refine wp_seq_k fun K4 hK4 => ?_
    refine wp_region_lit ?_
    refine sB 1 [(13, .int .i64 0)] hF (by kernel_rfl) fun a hF => ?_
    refine wl (eP 14 (v0 := .bool (!decide (0 = 0))) (v := .bool false) hF (by kernel_rfl) (fun _ => by kernel_rfl) (nT (by omega)) fun a hF => ?_)
    refine wpList_nil ?_
    refine hK4 _ _ ?_
    refine cF hF (by kernel_rfl) (by kernel_rfl) ?_
    refine wp_skip ?_
    refine hK3 _ _ ?_
    refine wp_seq_k fun K5 hK5 => ?_
    refine wp_region_lit ?_
    refine sB 1 [(16, .pointer (some ⟨bb2, 0, none⟩))] hF (by kernel_rfl) fun a hF => ?_
    refine wl (eL 17 2 0 (v := .int .i64 la) hF hM (by kernel_rfl) rfl rfl (by kernel_rfl) (by kernel_rfl) fun a w hF hM => ?_)
    refine wl (eP 18 (v0 := .int .i64 (if 1099511627776 < la then 1099511627776 else la)) (v := .int .i64 (min la 1099511627776)) hF (by kernel_rfl) (fun _ => by kernel_rfl) (vi (min_if _ _)) fun a hF => ?_)
    refine wl (eP 19 (v0 := .int .i64 (if min la 1099511627776 > 0 then min la 1099511627776 else 0)) (v := .int .i64 (max 0 (min la 1099511627776))) hF (by kernel_rfl) (fun _ => by kernel_rfl) (vi (max_if _ _)) fun a hF => ?_)
    refine sB 1 [(20, .pointer (some ⟨bb2, 1, none⟩))] hF (by kernel_rfl) fun a hF => ?_
    refine wl (eL 21 2 1 (v := .int .i64 lv) hF hM (by kernel_rfl) rfl rfl (by kernel_rfl) (by kernel_rfl) fun a w hF hM => ?_)
    refine sB 1 [(22, .pointer (some ⟨bb3, 1, none⟩))] hF (by kernel_rfl) fun a hF => ?_
    refine wl (eL 23 3 1 (v := .int .i64 (b * 1048576)) hF hM (by kernel_rfl) rfl rfl (by kernel_rfl) (by kernel_rfl) fun a w hF hM => ?_)
    refine wl (eP 24 (v0 := .int .i64 (if b * 1048576 < lv then b * 1048576 else lv)) (v := .int .i64 (min lv (b * 1048576))) hF (by kernel_rfl) (fun _ => by kernel_rfl) (vi (min_if _ _)) fun a hF => ?_)
    refine wl (eP 25 (v0 := .int .i64 (if min lv (b * 1048576) > 0 then min lv (b * 1048576) else 0)) (v := .int .i64 (max 0 (min lv (b * 1048576)))) hF (by kernel_rfl) (fun _ => by kernel_rfl) (vi (max_if _ _)) fun a hF => ?_)
    refine sB 1 [(26, .agg #[.int .i64 (max 0 (min la 1099511627776)), .int .i64 (max 0 (min lv (b * 1048576)))])] hF (by kernel_rfl) fun a hF => ?_
    refine wl (eN 7 4 (t := 29) (fun b => .pointer (some ⟨b, 0, none⟩)) #[.int .i64 0, .int .i64 0] hF hM (by kernel_rfl) (fun _ => by kernel_rfl) fun bb4 a w hF hM => ?_)
    refine wl (sStore (i := 4) (off := 0) (cs' := #[.int .i64 (max 0 (min la 1099511627776)), .int .i64 (max 0 (min lv (b * 1048576)))]) hF hM (by kernel_rfl) rfl rfl (by kernel_rfl) (by kernel_rfl) rfl (by kernel_rfl) fun w hM => ?_)
    refine wpList_nil ?_
    refine hK5 _ _ ?_
    refine wp_seq_k fun K6 hK6 => ?_
    refine wp_seq_k fun K7 hK7 => ?_
    refine wp_region_lit ?_
    refine wl (eL 27 2 0 (v := .agg #[.int .i64 la, .int .i64 lv]) hF hM (by kernel_rfl) rfl rfl (by kernel_rfl) (by kernel_rfl) fun a w hF hM => ?_)
    refine wl (eL 28 4 0 (v := .agg #[.int .i64 (max 0 (min la 1099511627776)), .int .i64 (max 0 (min lv (b * 1048576)))]) hF hM (by kernel_rfl) rfl rfl (by kernel_rfl) (by kernel_rfl) fun a w hF hM => ?_)
    refine wl (eM 29 (v := .bool (!decide ([la, lv] = [max 0 (min la 1099511627776), max 0 (min lv (b * 1048576))]))) hF hM (by kernel_rfl) (yld_neq (C := Mem _ _ _) [la, lv] [max 0 (min la 1099511627776), max 0 (min lv (b * 1048576))] hF rfl (by kernel_rfl) (by kernel_rfl) (by kernel_rfl) rfl (by kernel_rfl) (by kernel_rfl) (by kernel_rfl) rfl rfl) fun a w hF hM => ?_)
    refine wpList_nil ?_
    refine hK7 _ _ ?_
    by_cases hz3 : [la, lv] = [max 0 (min la 1099511627776), max 0 (min lv (b * 1048576))]
    · skip
      replace hF := hF.c hF (i := 29) (v := .bool false) rfl (nT hz3)
      refine cF hF (by kernel_rfl) (by kernel_rfl) ?_
      refine wp_skip ?_
      refine hK6 _ _ ?_
      refine wp_seq_k fun K8 hK8 => ?_
      refine wp_region_lit ?_
      refine sB 1 [(4, .int .i64 0)] hF (by kernel_rfl) fun a hF => ?_
      refine wpList_nil ?_
      refine hK8 _ _ ?_
      refine wp_ret ?_
      refine hR0 _ _ ?_
      refine ret_of hF hM (.tmp rfl (.nil)) ?_
      exact ⟨ret_int (sk_0 hz1 (by have q := hz3; simp only [List.cons.injEq, and_true] at q; omega)).symm, hM.bel⟩
    · skip
      replace hF := hF.c hF (i := 29) (v := .bool true) rfl (nF hz3)
      refine cT hF (by kernel_rfl) (by kernel_rfl) ?_
      refine wp_seq_k fun K9 hK9 => ?_
      refine wp_region_lit ?_
      refine sB 1 [(4, .int .i64 440)] hF (by kernel_rfl) fun a hF => ?_
      refine wpList_nil ?_
      refine hK9 _ _ ?_
      refine wp_ret ?_
      refine hR0 _ _ ?_
      refine ret_of hF hM (.tmp rfl (.nil)) ?_
      exact ⟨ret_int (sk_440 hz1 (fun q => hz3 (by simp only [List.cons.injEq, and_true]; omega))).symm, hM.bel⟩
  · skip
    refine wp_region_lit ?_
    refine wl (eL 9 1 0 (v := .agg #[.int .i64 b, .int .i64 r]) hF hM (by kernel_rfl) rfl rfl (by kernel_rfl) (by kernel_rfl) fun a w hF hM => ?_)
    refine wl (eM 10 (v := .tuple #[.agg #[.int .i64 0, .int .i64 0], .int .i64 130]) hF hM (by kernel_rfl) (yld_call (f := 10) (args := #[.agg #[.int .i64 b, .int .i64 r]]) hF (by kernel_rfl) (fun _ => by kernel_rfl) (fun w hM => nw_to (snL_no hz1) (bkE_no hz1) (shNew_w b r w))) fun a w hF hM => ?_)
    refine sB 3 [(8, .tuple #[.agg #[.int .i64 0, .int .i64 0], .int .i64 130]), (11, .agg #[.int .i64 0, .int .i64 0]), (12, .int .i64 130)] hF (by kernel_rfl) fun a hF => ?_
    refine wl (eN 5 5 (t := 29) (fun b => .pointer (some ⟨b, 0, none⟩)) #[.int .i64 0, .int .i64 0] hF hM (by kernel_rfl) (fun _ => by kernel_rfl) fun bb5 a w hF hM => ?_)
    refine wl (sStore (i := 5) (off := 0) (cs' := #[.int .i64 0, .int .i64 0]) hF hM (by kernel_rfl) rfl rfl (by kernel_rfl) (by kernel_rfl) rfl (by kernel_rfl) fun w hM => ?_)
    refine sB 1 [(6, .int .i64 130)] hF (by kernel_rfl) fun a hF => ?_
    refine wpList_nil ?_
    refine hK2 _ _ ?_
    refine wp_seq_k fun K10 hK10 => ?_
    refine wp_seq_k fun K11 hK11 => ?_
    refine wp_region_lit ?_
    refine sB 1 [(13, .int .i64 130)] hF (by kernel_rfl) fun a hF => ?_
    refine wl (eP 14 (v0 := .bool (!decide (130 = 0))) (v := .bool true) hF (by kernel_rfl) (fun _ => by kernel_rfl) (nF (by omega)) fun a hF => ?_)
    refine wpList_nil ?_
    refine hK11 _ _ ?_
    refine cT hF (by kernel_rfl) (by kernel_rfl) ?_
    refine wp_seq_k fun K12 hK12 => ?_
    refine wp_region_lit ?_
    refine sB 2 [(15, .int .i64 130), (4, .int .i64 130)] hF (by kernel_rfl) fun a hF => ?_
    refine wpList_nil ?_
    refine hK12 _ _ ?_
    refine wp_ret ?_
    refine hR0 _ _ ?_
    refine ret_of hF hM (.tmp rfl (.nil)) ?_
    exact ⟨ret_int (by rw [sk_130 hz1]), hM.bel⟩

theorem rCheck34_w (b r la lv : Int) (w0 : World) :
    Calls Try.prog 13 #[.agg #[.int .i64 b, .int .i64 r], .agg #[.int .i64 la, .int .i64 lv]] w0 (Ret w0 (.int .i64 (skE b r la lv))) := by
  refine enterK 29 Try.func13 rfl rfl rfl ?_
  intro a hF Q0 hR0 hN0
  have hM := Mem.start w0
  refine wp_seq_k fun K1 hK1 => ?_
  refine wp_region_lit ?_
  refine wl (eN 2 1 (t := 23) (fun b => .pointer (some ⟨b, 0, none⟩)) #[.int .i64 b, .int .i64 r] hF hM (by kernel_rfl) (fun _ => by kernel_rfl) fun bb1 a w hF hM => ?_)
  refine wl (eN 3 2 (t := 29) (fun b => .pointer (some ⟨b, 0, none⟩)) #[.int .i64 la, .int .i64 lv] hF hM (by kernel_rfl) (fun _ => by kernel_rfl) fun bb2 a w hF hM => ?_)
  refine sB 1 [(4, .int .i64 0)] hF (by kernel_rfl) fun a hF => ?_
  refine wpList_nil ?_
  refine hK1 _ _ ?_
  refine wp_seq_k fun K2 hK2 => ?_
  refine wp_seq_k fun K3 hK3 => ?_
  by_cases hz1 : bkE b r = 0
  · skip
    have hz2 := bkE_ok hz1
    refine wp_region_lit ?_
    refine wl (eL 5 1 0 (v := .agg #[.int .i64 b, .int .i64 r]) hF hM (by kernel_rfl) rfl rfl (by kernel_rfl) (by kernel_rfl) fun a w hF hM => ?_)
    refine wl (eM 6 (v := .bool true) hF hM (by kernel_rfl) (yld_call (f := 27) (args := #[.agg #[.int .i64 b, .int .i64 r]]) hF (by kernel_rfl) (fun _ => by kernel_rfl) (fun w hM => right_yes b r w hz1)) fun a w hF hM => ?_)
    refine sB 1 [(7, .bool false)] hF (by kernel_rfl) fun a hF => ?_
    refine wpList_nil ?_
    refine hK3 _ _ ?_
    refine cF hF (by kernel_rfl) (by kernel_rfl) ?_
    refine wp_skip ?_
    refine hK2 _ _ ?_
    refine wp_seq_k fun K4 hK4 => ?_
    refine wp_seq_k fun K5 hK5 => ?_
    by_cases hz3 : la < 0
    · skip
      refine wp_region_lit ?_
      refine sB 1 [(8, .pointer (some ⟨bb2, 0, none⟩))] hF (by kernel_rfl) fun a hF => ?_
      refine wl (eL 9 2 0 (v := .int .i64 la) hF hM (by kernel_rfl) rfl rfl (by kernel_rfl) (by kernel_rfl) fun a w hF hM => ?_)
      refine wl (eP 10 (v0 := .bool (decide (la < 0))) (v := .bool true) hF (by kernel_rfl) (fun _ => by kernel_rfl) (bT hz3) fun a hF => ?_)
      refine sB 18 [(11, .bool true), (12, undef), (13, undef), (14, undef), (15, .bool true), (16, .bool true), (17, undef), (18, undef), (19, undef), (20, .bool true), (21, .bool true), (22, undef), (23, undef), (24, undef), (25, undef), (26, undef), (27, undef), (28, .bool true)] hF (by kernel_rfl) fun a hF => ?_
      refine wpList_nil ?_
      refine hK5 _ _ ?_
      refine cT hF (by kernel_rfl) (by kernel_rfl) ?_
      refine wp_seq_k fun K6 hK6 => ?_
      refine wp_region_lit ?_
      refine sB 1 [(4, .int .i64 440)] hF (by kernel_rfl) fun a hF => ?_
      refine wpList_nil ?_
      refine hK6 _ _ ?_
      refine wp_ret ?_
      refine hR0 _ _ ?_
      refine ret_of hF hM (.tmp rfl (.nil)) ?_
      exact ⟨ret_int (sk_440 hz1 (fun q => by omega)).symm, hM.bel⟩
    · skip
      by_cases hz4 : 1099511627776 < la
      · skip
        refine wp_region_lit ?_
        refine sB 1 [(8, .pointer (some ⟨bb2, 0, none⟩))] hF (by kernel_rfl) fun a hF => ?_
        refine wl (eL 9 2 0 (v := .int .i64 la) hF hM (by kernel_rfl) rfl rfl (by kernel_rfl) (by kernel_rfl) fun a w hF hM => ?_)
        refine wl (eP 10 (v0 := .bool (decide (la < 0))) (v := .bool false) hF (by kernel_rfl) (fun _ => by kernel_rfl) (bF hz3) fun a hF => ?_)
        refine sB 2 [(11, .bool false), (12, .pointer (some ⟨bb2, 0, none⟩))] hF (by kernel_rfl) fun a hF => ?_
        refine wl (eL 13 2 0 (v := .int .i64 la) hF hM (by kernel_rfl) rfl rfl (by kernel_rfl) (by kernel_rfl) fun a w hF hM => ?_)
        refine wl (eP 14 (v0 := .bool (decide (1099511627776 < la))) (v := .bool true) hF (by kernel_rfl) (fun _ => by kernel_rfl) (bT hz4) fun a hF => ?_)
        refine sB 14 [(15, .bool true), (16, .bool true), (17, undef), (18, undef), (19, undef), (20, .bool true), (21, .bool true), (22, undef), (23, undef), (24, undef), (25, undef), (26, undef), (27, undef), (28, .bool true)] hF (by kernel_rfl) fun a hF => ?_
        refine wpList_nil ?_
        refine hK5 _ _ ?_
        refine cT hF (by kernel_rfl) (by kernel_rfl) ?_
        refine wp_seq_k fun K7 hK7 => ?_
        refine wp_region_lit ?_
        refine sB 1 [(4, .int .i64 440)] hF (by kernel_rfl) fun a hF => ?_
        refine wpList_nil ?_
        refine hK7 _ _ ?_
        refine wp_ret ?_
        refine hR0 _ _ ?_
        refine ret_of hF hM (.tmp rfl (.nil)) ?_
        exact ⟨ret_int (sk_440 hz1 (fun q => by omega)).symm, hM.bel⟩
      · skip
        by_cases hz5 : lv < 0
        · skip
          refine wp_region_lit ?_
          refine sB 1 [(8, .pointer (some ⟨bb2, 0, none⟩))] hF (by kernel_rfl) fun a hF => ?_
          refine wl (eL 9 2 0 (v := .int .i64 la) hF hM (by kernel_rfl) rfl rfl (by kernel_rfl) (by kernel_rfl) fun a w hF hM => ?_)
          refine wl (eP 10 (v0 := .bool (decide (la < 0))) (v := .bool false) hF (by kernel_rfl) (fun _ => by kernel_rfl) (bF hz3) fun a hF => ?_)
          refine sB 2 [(11, .bool false), (12, .pointer (some ⟨bb2, 0, none⟩))] hF (by kernel_rfl) fun a hF => ?_
          refine wl (eL 13 2 0 (v := .int .i64 la) hF hM (by kernel_rfl) rfl rfl (by kernel_rfl) (by kernel_rfl) fun a w hF hM => ?_)
          refine wl (eP 14 (v0 := .bool (decide (1099511627776 < la))) (v := .bool false) hF (by kernel_rfl) (fun _ => by kernel_rfl) (bF hz4) fun a hF => ?_)
          refine sB 3 [(15, .bool false), (16, .bool false), (17, .pointer (some ⟨bb2, 1, none⟩))] hF (by kernel_rfl) fun a hF => ?_
          refine wl (eL 18 2 1 (v := .int .i64 lv) hF hM (by kernel_rfl) rfl rfl (by kernel_rfl) (by kernel_rfl) fun a w hF hM => ?_)
          refine wl (eP 19 (v0 := .bool (decide (lv < 0))) (v := .bool true) hF (by kernel_rfl) (fun _ => by kernel_rfl) (bT hz5) fun a hF => ?_)
          refine sB 9 [(20, .bool true), (21, .bool true), (22, undef), (23, undef), (24, undef), (25, undef), (26, undef), (27, undef), (28, .bool true)] hF (by kernel_rfl) fun a hF => ?_
          refine wpList_nil ?_
          refine hK5 _ _ ?_
          refine cT hF (by kernel_rfl) (by kernel_rfl) ?_
          refine wp_seq_k fun K8 hK8 => ?_
          refine wp_region_lit ?_
          refine sB 1 [(4, .int .i64 440)] hF (by kernel_rfl) fun a hF => ?_
          refine wpList_nil ?_
          refine hK8 _ _ ?_
          refine wp_ret ?_
          refine hR0 _ _ ?_
          refine ret_of hF hM (.tmp rfl (.nil)) ?_
          exact ⟨ret_int (sk_440 hz1 (fun q => by omega)).symm, hM.bel⟩
        · skip
          refine wp_region_lit ?_
          refine sB 1 [(8, .pointer (some ⟨bb2, 0, none⟩))] hF (by kernel_rfl) fun a hF => ?_
          refine wl (eL 9 2 0 (v := .int .i64 la) hF hM (by kernel_rfl) rfl rfl (by kernel_rfl) (by kernel_rfl) fun a w hF hM => ?_)
          refine wl (eP 10 (v0 := .bool (decide (la < 0))) (v := .bool false) hF (by kernel_rfl) (fun _ => by kernel_rfl) (bF hz3) fun a hF => ?_)
          refine sB 2 [(11, .bool false), (12, .pointer (some ⟨bb2, 0, none⟩))] hF (by kernel_rfl) fun a hF => ?_
          refine wl (eL 13 2 0 (v := .int .i64 la) hF hM (by kernel_rfl) rfl rfl (by kernel_rfl) (by kernel_rfl) fun a w hF hM => ?_)
          refine wl (eP 14 (v0 := .bool (decide (1099511627776 < la))) (v := .bool false) hF (by kernel_rfl) (fun _ => by kernel_rfl) (bF hz4) fun a hF => ?_)
          refine sB 3 [(15, .bool false), (16, .bool false), (17, .pointer (some ⟨bb2, 1, none⟩))] hF (by kernel_rfl) fun a hF => ?_
          refine wl (eL 18 2 1 (v := .int .i64 lv) hF hM (by kernel_rfl) rfl rfl (by kernel_rfl) (by kernel_rfl) fun a w hF hM => ?_)
          refine wl (eP 19 (v0 := .bool (decide (lv < 0))) (v := .bool false) hF (by kernel_rfl) (fun _ => by kernel_rfl) (bF hz5) fun a hF => ?_)
          refine sB 3 [(20, .bool false), (21, .bool false), (22, .pointer (some ⟨bb2, 1, none⟩))] hF (by kernel_rfl) fun a hF => ?_
          refine wl (eL 23 2 1 (v := .int .i64 lv) hF hM (by kernel_rfl) rfl rfl (by kernel_rfl) (by kernel_rfl) fun a w hF hM => ?_)
          refine sB 1 [(24, .pointer (some ⟨bb1, 0, none⟩))] hF (by kernel_rfl) fun a hF => ?_
          refine wl (eL 25 1 0 (v := .int .i64 b) hF hM (by kernel_rfl) rfl rfl (by kernel_rfl) (by kernel_rfl) fun a w hF hM => ?_)
          refine wl (eP 26 (v0 := .int .i64 (IntKind.i64.wrap (b * 1048576))) (v := .int .i64 (b * 1048576)) hF (by kernel_rfl) (fun _ => by kernel_rfl) (wi (by omega)) fun a hF => ?_)
          refine sB 2 [(27, .bool (decide (b * 1048576 < lv))), (28, .bool (decide (b * 1048576 < lv)))] hF (by kernel_rfl) fun a hF => ?_
          refine wpList_nil ?_
          refine hK5 _ _ ?_
          by_cases hz6 : b * 1048576 < lv
          · skip
            replace hF := hF.c hF (i := 27) (v := .bool true) rfl (bT hz6)
            replace hF := hF.c hF (i := 28) (v := .bool true) rfl (bT hz6)
            refine cT hF (by kernel_rfl) (by kernel_rfl) ?_
            refine wp_seq_k fun K9 hK9 => ?_
            refine wp_region_lit ?_
            refine sB 1 [(4, .int .i64 440)] hF (by kernel_rfl) fun a hF => ?_
            refine wpList_nil ?_
            refine hK9 _ _ ?_
            refine wp_ret ?_
            refine hR0 _ _ ?_
            refine ret_of hF hM (.tmp rfl (.nil)) ?_
            exact ⟨ret_int (sk_440 hz1 (fun q => by omega)).symm, hM.bel⟩
          · skip
            replace hF := hF.c hF (i := 27) (v := .bool false) rfl (bF hz6)
            replace hF := hF.c hF (i := 28) (v := .bool false) rfl (bF hz6)
            refine cF hF (by kernel_rfl) (by kernel_rfl) ?_
            refine wp_skip ?_
            refine hK4 _ _ ?_
            refine wp_seq_k fun K10 hK10 => ?_
            refine wp_region_lit ?_
            refine sB 1 [(4, .int .i64 0)] hF (by kernel_rfl) fun a hF => ?_
            refine wpList_nil ?_
            refine hK10 _ _ ?_
            refine wp_ret ?_
            refine hR0 _ _ ?_
            refine ret_of hF hM (.tmp rfl (.nil)) ?_
            exact ⟨ret_int (sk_0 hz1 (by omega)).symm, hM.bel⟩
  · skip
    refine wp_region_lit ?_
    refine wl (eL 5 1 0 (v := .agg #[.int .i64 b, .int .i64 r]) hF hM (by kernel_rfl) rfl rfl (by kernel_rfl) (by kernel_rfl) fun a w hF hM => ?_)
    refine wl (eM 6 (v := .bool false) hF hM (by kernel_rfl) (yld_call (f := 27) (args := #[.agg #[.int .i64 b, .int .i64 r]]) hF (by kernel_rfl) (fun _ => by kernel_rfl) (fun w hM => right_no b r w hz1)) fun a w hF hM => ?_)
    refine sB 1 [(7, .bool true)] hF (by kernel_rfl) fun a hF => ?_
    refine wpList_nil ?_
    refine hK3 _ _ ?_
    refine cT hF (by kernel_rfl) (by kernel_rfl) ?_
    refine wp_seq_k fun K11 hK11 => ?_
    refine wp_region_lit ?_
    refine sB 1 [(4, .int .i64 130)] hF (by kernel_rfl) fun a hF => ?_
    refine wpList_nil ?_
    refine hK11 _ _ ?_
    refine wp_ret ?_
    refine hR0 _ _ ?_
    refine ret_of hF hM (.tmp rfl (.nil)) ?_
    exact ⟨ret_int (by rw [sk_130 hz1]), hM.bel⟩

theorem level_w (b r la lv t : Int) (B1 B2 : Nat) (w0 : World) (h : 1 ≤ b ∧ b ≤ 1048576 ∧ 1 ≤ r ∧ r ≤ 2097152 ∧ 0 ≤ lv ∧ lv ≤ 1099511627776 ∧ la ≤ t ∧ t - la ≤ 2199023255552 ∧ 0 ≤ la ∧ la ≤ 1099511627776) (hB1 : Ro w0 (some ⟨B1, 0, none⟩) [.int .i64 b, .int .i64 r]) (hB2 : Ro w0 (some ⟨B2, 0, none⟩) [.int .i64 la, .int .i64 lv]) :
    Calls Try.prog 37 #[.int .i64 t, .pointer (some ⟨B1, 0, none⟩), .pointer (some ⟨B2, 0, none⟩)] w0 (Ret w0 (.int .i64 (up b r lv (t - la)))) := by
  refine enterK 19 Try.func37 rfl rfl rfl ?_
  intro a hF Q0 hR0 hN0
  have hM := Mem.start w0
  replace hM := hM.addOld 1 hB1 (Nat.le_refl _)
  replace hM := hM.addOld 2 hB2 (Nat.le_refl _)
  refine wp_seq_k fun K1 hK1 => ?_
  refine wp_region_lit ?_
  refine sB 1 [(4, .int .i64 0)] hF (by kernel_rfl) fun a hF => ?_
  refine wpList_nil ?_
  refine hK1 _ _ ?_
  refine wp_seq_k fun K2 hK2 => ?_
  refine wp_region_lit ?_
  refine sB 1 [(5, .pointer (some ⟨B1, 0, none⟩))] hF (by kernel_rfl) fun a hF => ?_
  refine wl (eM 6 (v := .int .i64 b) hF hM (by kernel_rfl) (yld_ro1 (A := (some ⟨B1, 0, none⟩)) (j := 0) hF rfl (by kernel_rfl) (by kernel_rfl) (roK 1 rfl) (by kernel_rfl) rfl) fun a w hF hM => ?_)
  refine wl (eP 7 (v0 := .int .i64 (IntKind.i64.wrap (b * 1048576))) (v := .int .i64 (b * 1048576)) hF (by kernel_rfl) (fun _ => by kernel_rfl) (wi (by omega)) fun a hF => ?_)
  refine sB 1 [(8, .pointer (some ⟨B2, 1, none⟩))] hF (by kernel_rfl) fun a hF => ?_
  refine wl (eM 9 (v := .int .i64 lv) hF hM (by kernel_rfl) (yld_ro1 (A := (some ⟨B2, 0, none⟩)) (j := 1) hF rfl (by kernel_rfl) (by kernel_rfl) (roK 2 rfl) (by kernel_rfl) rfl) fun a w hF hM => ?_)
  refine sB 1 [(10, .pointer (some ⟨B1, 1, none⟩))] hF (by kernel_rfl) fun a hF => ?_
  refine wl (eM 11 (v := .int .i64 r) hF hM (by kernel_rfl) (yld_ro1 (A := (some ⟨B1, 0, none⟩)) (j := 1) hF rfl (by kernel_rfl) (by kernel_rfl) (roK 1 rfl) (by kernel_rfl) rfl) fun a w hF hM => ?_)
  refine sB 2 [(12, .int .i64 t), (13, .pointer (some ⟨B2, 0, none⟩))] hF (by kernel_rfl) fun a hF => ?_
  refine wl (eM 14 (v := .int .i64 la) hF hM (by kernel_rfl) (yld_ro1 (A := (some ⟨B2, 0, none⟩)) (j := 0) hF rfl (by kernel_rfl) (by kernel_rfl) (roK 2 rfl) (by kernel_rfl) rfl) fun a w hF hM => ?_)
  refine wl (eP 15 (v0 := .int .i64 (IntKind.i64.wrap (t - la))) (v := .int .i64 (t - la)) hF (by kernel_rfl) (fun _ => by kernel_rfl) (wi (by omega)) fun a hF => ?_)
  have hz1 : 0 ≤ r * (t - la) ∧ r * (t - la) ≤ 4611686018427387904 := mul_bd (1) (2097152) (0) (2199023255552) (by omega) (by omega) (by omega) (by omega) (by decide)
  refine wl (eP 16 (v0 := .int .i64 (IntKind.i64.wrap (r * (t - la)))) (v := .int .i64 (r * (t - la))) hF (by kernel_rfl) (fun _ => by kernel_rfl) (wi (by omega)) fun a hF => ?_)
  refine wl (eP 17 (v0 := .int .i64 (IntKind.i64.wrap (lv + r * (t - la)))) (v := .int .i64 (lv + r * (t - la))) hF (by kernel_rfl) (fun _ => by kernel_rfl) (wi (by omega)) fun a hF => ?_)
  refine wl (eP 18 (v0 := .int .i64 (if lv + r * (t - la) < b * 1048576 then lv + r * (t - la) else b * 1048576)) (v := .int .i64 (min (b * 1048576) (lv + r * (t - la)))) hF (by kernel_rfl) (fun _ => by kernel_rfl) (vi (min_if _ _)) fun a hF => ?_)
  refine sB 1 [(4, .int .i64 (min (b * 1048576) (lv + r * (t - la))))] hF (by kernel_rfl) fun a hF => ?_
  refine wpList_nil ?_
  refine hK2 _ _ ?_
  refine wp_ret ?_
  refine hR0 _ _ ?_
  refine ret_of hF hM (.tmp rfl (.nil)) ?_
  exact ⟨ret_int rfl, hM.bel⟩

theorem wait_w (b r la lv t nd : Int) (N L B1 B2 : Nat) (w0 : World) (h : 1 ≤ b ∧ b ≤ 1048576 ∧ 1 ≤ r ∧ r ≤ 2097152 ∧ 0 ≤ lv ∧ lv ≤ 1099511627776 ∧ la ≤ t ∧ t - la ≤ 2199023255552 ∧ 0 ≤ la ∧ la ≤ 1099511627776 ∧ 0 ≤ nd ∧ nd ≤ 1099511627776) (hN : Ro w0 (some ⟨N, 0, none⟩) [.int .i64 nd]) (hL : Ro w0 (some ⟨L, 0, none⟩) [.func (.func 37) #[] #[.pointer (some ⟨B1, 0, none⟩), .pointer (some ⟨B2, 0, none⟩)]]) (hB1 : Ro w0 (some ⟨B1, 0, none⟩) [.int .i64 b, .int .i64 r]) (hB2 : Ro w0 (some ⟨B2, 0, none⟩) [.int .i64 la, .int .i64 lv]) :
    Calls Try.prog 38 #[.int .i64 t, .pointer (some ⟨N, 0, none⟩), .pointer (some ⟨L, 0, none⟩), .pointer (some ⟨B1, 0, none⟩)] w0 (Ret w0 (.int .i64 (cq (max 0 (nd - up b r lv (t - la))) r))) := by
  refine enterK 21 Try.func38 rfl rfl rfl ?_
  intro a hF Q0 hR0 hN0
  have hM := Mem.start w0
  replace hM := hM.addOld 1 hN (Nat.le_refl _)
  replace hM := hM.addOld 2 hL (Nat.le_refl _)
  replace hM := hM.addOld 3 hB1 (Nat.le_refl _)
  replace hM := hM.addOld 4 hB2 (Nat.le_refl _)
  refine wp_seq_k fun K1 hK1 => ?_
  refine wp_region_lit ?_
  refine sB 1 [(5, .int .i64 0)] hF (by kernel_rfl) fun a hF => ?_
  refine wpList_nil ?_
  refine hK1 _ _ ?_
  refine wp_seq_k fun K2 hK2 => ?_
  refine rQ hM (by kernel_rfl) (by kernel_rfl) ?_
  refine eQ2 9 (v := .int .i64 nd) hF (by kernel_rfl) (yld_ro1 (A := (some ⟨N, 0, none⟩)) (j := 0) hF rfl (by kernel_rfl) (by kernel_rfl) (roK 1 rfl) (by kernel_rfl) rfl) fun a hF => ?_
  refine eQ2 10 (v := .func (.func 37) #[] #[.pointer (some ⟨B1, 0, none⟩), .pointer (some ⟨B2, 0, none⟩)]) hF (by kernel_rfl) (yld_ro1 (A := (some ⟨L, 0, none⟩)) (j := 0) hF rfl (by kernel_rfl) (by kernel_rfl) (roK 2 rfl) (by kernel_rfl) rfl) fun a hF => ?_
  refine eQ 11 (v0 := .int .i64 t) (v := .int .i64 t) hF (by kernel_rfl) (fun _ => by kernel_rfl) rfl fun a hF => ?_
  refine eQ2 12 (v := .int .i64 (up b r lv (t - la))) hF (by kernel_rfl) (yld_call (f := 37) (args := #[.int .i64 t, .pointer (some ⟨B1, 0, none⟩), .pointer (some ⟨B2, 0, none⟩)]) hF (by kernel_rfl) (fun _ => by kernel_rfl) (fun w hM => level_w b r la lv t B1 B2 w (by omega) (hM.ok 3 _ rfl) (hM.ok 4 _ rfl))) fun a hF => ?_
  have := up_bd (b := b) (r := r) (n := lv) (t := t - la) (by omega) (by omega) (by omega) (by omega)
  refine eQ 13 (v0 := .int .i64 (IntKind.i64.wrap (nd - up b r lv (t - la)))) (v := .int .i64 (nd - up b r lv (t - la))) hF (by kernel_rfl) (fun _ => by kernel_rfl) (wi (by omega)) fun a hF => ?_
  refine eQ 14 (v0 := .int .i64 (if nd - up b r lv (t - la) > 0 then nd - up b r lv (t - la) else 0)) (v := .int .i64 (max 0 (nd - up b r lv (t - la)))) hF (by kernel_rfl) (fun _ => by kernel_rfl) (vi (max_if _ _)) fun a hF => ?_
  refine eQ 15 (v0 := .pointer (some ⟨B1, 1, none⟩)) (v := .pointer (some ⟨B1, 1, none⟩)) hF (by kernel_rfl) (fun _ => by kernel_rfl) rfl fun a hF => ?_
  refine eQ2 16 (v := .int .i64 r) hF (by kernel_rfl) (yld_ro1 (A := (some ⟨B1, 0, none⟩)) (j := 1) hF rfl (by kernel_rfl) (by kernel_rfl) (roK 3 rfl) (by kernel_rfl) rfl) fun a hF => ?_
  refine eQ2 17 (v := .tuple #[.int .i64 (cq (max 0 (nd - up b r lv (t - la))) r), .bool true]) hF (by kernel_rfl) (yld_call (f := 39) (args := #[.int .i64 (max 0 (nd - up b r lv (t - la))), .int .i64 r]) hF (by kernel_rfl) (fun _ => by kernel_rfl) (fun w hM => cd_to (n := max 0 (nd - up b r lv (t - la))) (d := r) (by omega) (by omega) (nCeil_w (max 0 (nd - up b r lv (t - la))) r w))) fun a hF => ?_
  refine eQ 8 (v0 := .tuple #[.int .i64 (cq (max 0 (nd - up b r lv (t - la))) r), .bool true]) (v := .tuple #[.int .i64 (cq (max 0 (nd - up b r lv (t - la))) r), .bool true]) hF (by kernel_rfl) (fun _ => by kernel_rfl) rfl fun a hF => ?_
  refine eQ 18 (v0 := .int .i64 (cq (max 0 (nd - up b r lv (t - la))) r)) (v := .int .i64 (cq (max 0 (nd - up b r lv (t - la))) r)) hF (by kernel_rfl) (fun _ => by kernel_rfl) rfl fun a hF => ?_
  refine eQ 19 (v0 := .bool true) (v := .bool true) hF (by kernel_rfl) (fun _ => by kernel_rfl) rfl fun a hF => ?_
  refine eQ 6 (v0 := .int .i64 (cq (max 0 (nd - up b r lv (t - la))) r)) (v := .int .i64 (cq (max 0 (nd - up b r lv (t - la))) r)) hF (by kernel_rfl) (fun _ => by kernel_rfl) rfl fun a hF => ?_
  refine eQ 7 (v0 := .bool true) (v := .bool true) hF (by kernel_rfl) (fun _ => by kernel_rfl) rfl fun a hF => ?_
  refine wpQuiet_nil ?_
  intro w hM
  refine hK2 _ _ ?_
  refine wp_seq_k fun K3 hK3 => ?_
  refine wp_region_lit ?_
  refine sB 2 [(20, .int .i64 (cq (max 0 (nd - up b r lv (t - la))) r)), (5, .int .i64 (cq (max 0 (nd - up b r lv (t - la))) r))] hF (by kernel_rfl) fun a hF => ?_
  refine wpList_nil ?_
  refine hK3 _ _ ?_
  refine wp_ret ?_
  refine hR0 _ _ ?_
  refine ret_of hF hM (.tmp rfl (.nil)) ?_
  exact ⟨rfl, hM.bel⟩

theorem eligible_w (b r la lv at_ s : Int) (w0 : World) (h : skE b r la lv = 0) (ha : 0 ≤ at_ ∧ at_ ≤ 1099511627776) (hs : 1 ≤ s ∧ s ≤ b) :
    Calls Try.prog 28 #[.agg #[.int .i64 b, .int .i64 r], .agg #[.int .i64 la, .int .i64 lv], .int .i64 at_, .int .i64 s] w0 (Ret w0 (.tuple #[.int .i64 (elT b r la lv at_ s), .agg #[.int .i64 (elT b r la lv at_ s), .int .i64 (elL b r la lv at_ s)]])) := by
  have hk := sk_bd h
  have he := el_bd h ha hs
  refine enterK 35 Try.func28 rfl rfl rfl ?_
  intro a hF Q0 hR0 hN0
  have hM := Mem.start w0
  refine wp_seq_k fun K1 hK1 => ?_
  refine wp_region_lit ?_
  refine wl (eN 4 1 (t := 23) (fun b => .pointer (some ⟨b, 0, none⟩)) #[.int .i64 b, .int .i64 r] hF hM (by kernel_rfl) (fun _ => by kernel_rfl) fun bb1 a w hF hM => ?_)
  refine wl (eN 5 2 (t := 29) (fun b => .pointer (some ⟨b, 0, none⟩)) #[.int .i64 la, .int .i64 lv] hF hM (by kernel_rfl) (fun _ => by kernel_rfl) fun bb2 a w hF hM => ?_)
  refine sB 1 [(8, .int .i64 0)] hF (by kernel_rfl) fun a hF => ?_
  refine wl (eN 9 3 (t := 29) (fun b => .pointer (some ⟨b, 0, none⟩)) #[.int .i64 0, .int .i64 0] hF hM (by kernel_rfl) (fun _ => by kernel_rfl) fun bb3 a w hF hM => ?_)
  refine wpList_nil ?_
  refine hK1 _ _ ?_
  refine wp_seq_k fun K2 hK2 => ?_
  refine wp_region_lit ?_
  refine sB 1 [(14, .int .i64 s)] hF (by kernel_rfl) fun a hF => ?_
  refine wl (eP 15 (v0 := .int .i64 (IntKind.i64.wrap (s * 1048576))) (v := .int .i64 (s * 1048576)) hF (by kernel_rfl) (fun _ => by kernel_rfl) (wi (by omega)) fun a hF => ?_)
  refine wl (eN 10 4 (t := 3) (fun b => .pointer (some ⟨b, 0, none⟩)) #[.int .i64 0] hF hM (by kernel_rfl) (fun _ => by kernel_rfl) fun bb4 a w hF hM => ?_)
  refine wl (sStore (i := 4) (off := 0) (cs' := #[.int .i64 (s * 1048576)]) hF hM (by kernel_rfl) rfl rfl (by kernel_rfl) (by kernel_rfl) rfl (by kernel_rfl) fun w hM => ?_)
  refine wpList_nil ?_
  refine hK2 _ _ ?_
  refine wp_seq_k fun K3 hK3 => ?_
  refine wp_region_lit ?_
  refine sB 1 [(16, .func (.func 37) #[] #[.pointer (some ⟨bb1, 0, none⟩), .pointer (some ⟨bb2, 0, none⟩)])] hF (by kernel_rfl) fun a hF => ?_
  refine wl (eN 11 5 (t := 78) (fun b => .pointer (some ⟨b, 0, none⟩)) #[.nilFunc] hF hM (by kernel_rfl) (fun _ => by kernel_rfl) fun bb5 a w hF hM => ?_)
  refine wl (sStore (i := 5) (off := 0) (cs' := #[.func (.func 37) #[] #[.pointer (some ⟨bb1, 0, none⟩), .pointer (some ⟨bb2, 0, none⟩)]]) hF hM (by kernel_rfl) rfl rfl (by kernel_rfl) (by kernel_rfl) rfl (by kernel_rfl) fun w hM => ?_)
  refine wpList_nil ?_
  refine hK3 _ _ ?_
  refine wp_seq_k fun K4 hK4 => ?_
  refine wp_region_lit ?_
  refine sB 2 [(17, .func (.func 38) #[] #[.pointer (some ⟨bb4, 0, none⟩), .pointer (some ⟨bb5, 0, none⟩), .pointer (some ⟨bb1, 0, none⟩)]), (12, .func (.func 38) #[] #[.pointer (some ⟨bb4, 0, none⟩), .pointer (some ⟨bb5, 0, none⟩), .pointer (some ⟨bb1, 0, none⟩)])] hF (by kernel_rfl) fun a hF => ?_
  refine wpList_nil ?_
  refine hK4 _ _ ?_
  refine wp_seq_k fun K5 hK5 => ?_
  refine wp_region_lit ?_
  refine sB 2 [(18, .int .i64 at_), (19, .pointer (some ⟨bb2, 0, none⟩))] hF (by kernel_rfl) fun a hF => ?_
  refine wl (eL 20 2 0 (v := .int .i64 la) hF hM (by kernel_rfl) rfl rfl (by kernel_rfl) (by kernel_rfl) fun a w hF hM => ?_)
  refine wl (eP 21 (v0 := .int .i64 (if la > at_ then la else at_)) (v := .int .i64 (max at_ la)) hF (by kernel_rfl) (fun _ => by kernel_rfl) (vi (max_if _ _)) fun a hF => ?_)
  refine sB 1 [(13, .int .i64 (max at_ la))] hF (by kernel_rfl) fun a hF => ?_
  refine wpList_nil ?_
  refine hK5 _ _ ?_
  refine wp_seq_k fun K6 hK6 => ?_
  refine wp_region_lit ?_
  refine sB 3 [(22, .int .i64 (max at_ la)), (23, .func (.func 38) #[] #[.pointer (some ⟨bb4, 0, none⟩), .pointer (some ⟨bb5, 0, none⟩), .pointer (some ⟨bb1, 0, none⟩)]), (24, .int .i64 (max at_ la))] hF (by kernel_rfl) fun a hF => ?_
  refine wl (eM 25 (v := .int .i64 (cq (elW b r la lv at_ s) r)) hF hM (by kernel_rfl) (yld_call (f := 38) (args := #[.int .i64 (max at_ la), .pointer (some ⟨bb4, 0, none⟩), .pointer (some ⟨bb5, 0, none⟩), .pointer (some ⟨bb1, 0, none⟩)]) hF (by kernel_rfl) (fun _ => by kernel_rfl) (fun w hM => wait_w b r la lv (max at_ la) (s * 1048576) bb4 bb5 bb1 bb2 w (by omega) (hM.roRow (k := 4) rfl) (hM.roRow (k := 5) rfl) (hM.roRow (k := 1) rfl) (hM.roRow (k := 2) rfl))) fun a w hF hM => ?_)
  refine wl (eP 26 (v0 := .int .i64 (IntKind.i64.wrap (max at_ la + cq (elW b r la lv at_ s) r))) (v := .int .i64 (elT b r la lv at_ s)) hF (by kernel_rfl) (fun _ => by kernel_rfl) (vi ((w64 (by omega)).trans rfl)) fun a hF => ?_)
  refine sB 1 [(13, .int .i64 (elT b r la lv at_ s))] hF (by kernel_rfl) fun a hF => ?_
  refine wpList_nil ?_
  refine hK6 _ _ ?_
  refine wp_seq_k fun K7 hK7 => ?_
  refine rT 9 (by kernel_rfl) (by kernel_rfl) hM.drew ?_
  refine eQ 27 (v0 := .int .i64 (elT b r la lv at_ s)) (v := .int .i64 (elT b r la lv at_ s)) hF (by kernel_rfl) (fun _ => by kernel_rfl) rfl fun a hF => ?_
  refine eQ 28 (v0 := .int .i64 (elT b r la lv at_ s)) (v := .int .i64 (elT b r la lv at_ s)) hF (by kernel_rfl) (fun _ => by kernel_rfl) rfl fun a hF => ?_
  refine eQL 29 5 0 (v := .func (.func 37) #[] #[.pointer (some ⟨bb1, 0, none⟩), .pointer (some ⟨bb2, 0, none⟩)]) hF (by kernel_rfl) rfl rfl (by kernel_rfl) (by kernel_rfl) fun a hF => ?_
  refine eQ 30 (v0 := .int .i64 (elT b r la lv at_ s)) (v := .int .i64 (elT b r la lv at_ s)) hF (by kernel_rfl) (fun _ => by kernel_rfl) rfl fun a hF => ?_
  refine eQ2 31 (v := .int .i64 (up b r lv (elT b r la lv at_ s - la))) hF (by kernel_rfl) (yld_call (f := 37) (args := #[.int .i64 (elT b r la lv at_ s), .pointer (some ⟨bb1, 0, none⟩), .pointer (some ⟨bb2, 0, none⟩)]) hF (by kernel_rfl) (fun _ => by kernel_rfl) (fun w hM => level_w b r la lv (elT b r la lv at_ s) bb1 bb2 w (by omega) (hM.roRow (k := 1) rfl) (hM.roRow (k := 2) rfl))) fun a hF => ?_
  have := up_bd (b := b) (r := r) (n := lv) (t := elT b r la lv at_ s - la) (by omega) (by omega) (by omega) (by omega)
  refine eQL 32 4 0 (v := .int .i64 (s * 1048576)) hF (by kernel_rfl) rfl rfl (by kernel_rfl) (by kernel_rfl) fun a hF => ?_
  refine eQ 33 (v0 := .int .i64 (IntKind.i64.wrap (up b r lv (elT b r la lv at_ s - la) - s * 1048576))) (v := .int .i64 (elL b r la lv at_ s)) hF (by kernel_rfl) (fun _ => by kernel_rfl) (vi ((w64 (by omega)).trans rfl)) fun a hF => ?_
  refine eQ 34 (v0 := .agg #[.int .i64 (elT b r la lv at_ s), .int .i64 (elL b r la lv at_ s)]) (v := .agg #[.int .i64 (elT b r la lv at_ s), .int .i64 (elL b r la lv at_ s)]) hF (by kernel_rfl) (fun _ => by kernel_rfl) rfl fun a hF => ?_
  refine eQ 8 (v0 := .int .i64 (elT b r la lv at_ s)) (v := .int .i64 (elT b r la lv at_ s)) hF (by kernel_rfl) (fun _ => by kernel_rfl) rfl fun a hF => ?_
  refine wpQuiet_nil ?_
  intro w hM
  refine wl (sStore (i := 3) (off := 0) (cs' := #[.int .i64 (elT b r la lv at_ s), .int .i64 (elL b r la lv at_ s)]) hF hM (by kernel_rfl) rfl rfl (by kernel_rfl) (by kernel_rfl) rfl (by kernel_rfl) fun w hM => ?_)
  refine wpList_nil ?_
  refine hK7 _ _ ?_
  refine wp_ret ?_
  refine hR0 _ _ ?_
  refine ret_of hF hM (.tmp rfl (.cell (i := 3) rfl rfl (v := .agg #[.int .i64 (elT b r la lv at_ s), .int .i64 (elL b r la lv at_ s)]) (by kernel_rfl) (.nil))) ?_
  exact ⟨rfl, hM.bel⟩

end Go.Proofs.Ytaekcgapbkmepaa
