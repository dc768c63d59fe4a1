/-
  Contracts of bucket.Check, meter.New and the reference New.
-/
import Derived.Test.YtogeficooemngaaBk
import Derived.Test.YtogeficooemngaaMeterPlain
namespace Go.Proofs.Ytogeficooemngaa
open Go.RowKit
set_option linter.unusedVariables false
set_option linter.unusedSimpArgs false

theorem bkCheck_w (b r : Int) (w0 : World) :
    Calls Try.prog 50 #[.agg #[.int .i64 b, .int .i64 r]] w0 (Ret w0 (.int .i64 (bkE b r))) := by
 refine enterK 13 Try.func50 rfl rfl rfl ?_
 intro a hF Q0 hR0 hN0
 have hM := Mem.start w0
 refine wp_seq_k fun K1 hK1 => ?_
 refine wp_region_lit ?_
 refine wl (eN 1 1 (t := 67) (fun b => .pointer (some ⟨b, 0, none⟩)) #[.int .i64 b, .int .i64 r] hF hM (by kernel_rfl) (fun _ => by kernel_rfl) fun bb1 a w hF hM => ?_)
 refine sB 1 [(2, .int .i64 0)] hF (by kernel_rfl) fun a hF => ?_
 refine wpList_nil ?_
 refine hK1 _ _ ?_
 refine wp_seq_k fun K2 hK2 => ?_
 refine wp_seq_k fun K3 hK3 => ?_
 by_cases hz1 : 1 ≤ b
 ·skip
  by_cases hz2 : b ≤ 1048576
  ·skip
   by_cases hz3 : 1 ≤ r
   ·skip
    by_cases hz4 : r ≤ 2097152
    ·skip
     refine wp_region_lit ?_
     refine sB 1 [(3, .pointer (some ⟨bb1, 0, none⟩))] hF (by kernel_rfl) fun a hF => ?_
     refine wl (eL 4 1 0 (v := .int .i64 b) hF hM (by kernel_rfl) rfl rfl (by kernel_rfl) (by kernel_rfl) fun a w hF hM => ?_)
     refine wl (eM 5 (v := .bool true) hF hM (by kernel_rfl) (yld_call (f := 64) (args := #[.int .i64 b, .int .i64 1, .int .i64 1048576]) hF (by kernel_rfl) (fun _ => by kernel_rfl) (fun w hM => inside_yes b 1 1048576 w hz1 hz2)) fun a w hF hM => ?_)
     refine sB 3 [(6, .bool false), (7, .bool false), (8, .pointer (some ⟨bb1, 1, none⟩))] hF (by kernel_rfl) fun a hF => ?_
     refine wl (eL 9 1 1 (v := .int .i64 r) hF hM (by kernel_rfl) rfl rfl (by kernel_rfl) (by kernel_rfl) fun a w hF hM => ?_)
     refine wl (eM 10 (v := .bool true) hF hM (by kernel_rfl) (yld_call (f := 64) (args := #[.int .i64 r, .int .i64 1, .int .i64 2097152]) hF (by kernel_rfl) (fun _ => by kernel_rfl) (fun w hM => inside_yes r 1 2097152 w hz3 hz4)) fun a w hF hM => ?_)
     refine sB 2 [(11, .bool false), (12, .bool false)] hF (by kernel_rfl) fun a hF => ?_
     refine wpList_nil ?_
     refine hK3 _ _ ?_
     refine cF hF (by kernel_rfl) (by kernel_rfl) ?_
     refine wp_skip ?_
     refine hK2 _ _ ?_
     refine wp_seq_k fun K4 hK4 => ?_
     refine wp_region_lit ?_
     refine sB 1 [(2, .int .i64 0)] hF (by kernel_rfl) fun a hF => ?_
     refine wpList_nil ?_
     refine hK4 _ _ ?_
     refine wp_ret ?_
     refine hR0 _ _ ?_
     refine ret_of hF hM (.tmp rfl (.nil)) ?_
     exact ⟨ret_int (by unfold bkE; omega), hM.bel⟩
    ·skip
     refine wp_region_lit ?_
     refine sB 1 [(3, .pointer (some ⟨bb1, 0, none⟩))] hF (by kernel_rfl) fun a hF => ?_
     refine wl (eL 4 1 0 (v := .int .i64 b) hF hM (by kernel_rfl) rfl rfl (by kernel_rfl) (by kernel_rfl) fun a w hF hM => ?_)
     refine wl (eM 5 (v := .bool true) hF hM (by kernel_rfl) (yld_call (f := 64) (args := #[.int .i64 b, .int .i64 1, .int .i64 1048576]) hF (by kernel_rfl) (fun _ => by kernel_rfl) (fun w hM => inside_yes b 1 1048576 w hz1 hz2)) fun a w hF hM => ?_)
     refine sB 3 [(6, .bool false), (7, .bool false), (8, .pointer (some ⟨bb1, 1, none⟩))] hF (by kernel_rfl) fun a hF => ?_
     refine wl (eL 9 1 1 (v := .int .i64 r) hF hM (by kernel_rfl) rfl rfl (by kernel_rfl) (by kernel_rfl) fun a w hF hM => ?_)
     refine wl (eM 10 (v := .bool false) hF hM (by kernel_rfl) (yld_call (f := 64) (args := #[.int .i64 r, .int .i64 1, .int .i64 2097152]) hF (by kernel_rfl) (fun _ => by kernel_rfl) (fun w hM => inside_no r 1 2097152 w (.inr hz4))) fun a w hF hM => ?_)
     refine sB 2 [(11, .bool true), (12, .bool true)] hF (by kernel_rfl) fun a hF => ?_
     refine wpList_nil ?_
     refine hK3 _ _ ?_
     refine cT hF (by kernel_rfl) (by kernel_rfl) ?_
     refine wp_seq_k fun K5 hK5 => ?_
     refine wp_region_lit ?_
     refine sB 1 [(2, .int .i64 130)] hF (by kernel_rfl) fun a hF => ?_
     refine wpList_nil ?_
     refine hK5 _ _ ?_
     refine wp_ret ?_
     refine hR0 _ _ ?_
     refine ret_of hF hM (.tmp rfl (.nil)) ?_
     exact ⟨ret_int (by unfold bkE; omega), hM.bel⟩
   ·skip
    refine wp_region_lit ?_
    refine sB 1 [(3, .pointer (some ⟨bb1, 0, none⟩))] hF (by kernel_rfl) fun a hF => ?_
    refine wl (eL 4 1 0 (v := .int .i64 b) hF hM (by kernel_rfl) rfl rfl (by kernel_rfl) (by kernel_rfl) fun a w hF hM => ?_)
    refine wl (eM 5 (v := .bool true) hF hM (by kernel_rfl) (yld_call (f := 64) (args := #[.int .i64 b, .int .i64 1, .int .i64 1048576]) hF (by kernel_rfl) (fun _ => by kernel_rfl) (fun w hM => inside_yes b 1 1048576 w hz1 hz2)) fun a w hF hM => ?_)
    refine sB 3 [(6, .bool false), (7, .bool false), (8, .pointer (some ⟨bb1, 1, none⟩))] hF (by kernel_rfl) fun a hF => ?_
    refine wl (eL 9 1 1 (v := .int .i64 r) hF hM (by kernel_rfl) rfl rfl (by kernel_rfl) (by kernel_rfl) fun a w hF hM => ?_)
    refine wl (eM 10 (v := .bool false) hF hM (by kernel_rfl) (yld_call (f := 64) (args := #[.int .i64 r, .int .i64 1, .int .i64 2097152]) hF (by kernel_rfl) (fun _ => by kernel_rfl) (fun w hM => inside_no r 1 2097152 w (.inl hz3))) fun a w hF hM => ?_)
    refine sB 2 [(11, .bool true), (12, .bool true)] hF (by kernel_rfl) fun a hF => ?_
    refine wpList_nil ?_
    refine hK3 _ _ ?_
    refine cT hF (by kernel_rfl) (by kernel_rfl) ?_
    refine wp_seq_k fun K6 hK6 => ?_
    refine wp_region_lit ?_
    refine sB 1 [(2, .int .i64 130)] hF (by kernel_rfl) fun a hF => ?_
    refine wpList_nil ?_
    refine hK6 _ _ ?_
    refine wp_ret ?_
    refine hR0 _ _ ?_
    refine ret_of hF hM (.tmp rfl (.nil)) ?_
    exact ⟨ret_int (by unfold bkE; omega), hM.bel⟩
  ·skip
   refine wp_region_lit ?_
   refine sB 1 [(3, .pointer (some ⟨bb1, 0, none⟩))] hF (by kernel_rfl) fun a hF => ?_
   refine wl (eL 4 1 0 (v := .int .i64 b) hF hM (by kernel_rfl) rfl rfl (by kernel_rfl) (by kernel_rfl) fun a w hF hM => ?_)
   refine wl (eM 5 (v := .bool false) hF hM (by kernel_rfl) (yld_call (f := 64) (args := #[.int .i64 b, .int .i64 1, .int .i64 1048576]) hF (by kernel_rfl) (fun _ => by kernel_rfl) (fun w hM => inside_no b 1 1048576 w (.inr hz2))) fun a w hF hM => ?_)
   refine sB 7 [(6, .bool true), (7, .bool true), (8, undef), (9, undef), (10, undef), (11, undef), (12, .bool true)] hF (by kernel_rfl) fun a hF => ?_
   refine wpList_nil ?_
   refine hK3 _ _ ?_
   refine cT hF (by kernel_rfl) (by kernel_rfl) ?_
   refine wp_seq_k fun K7 hK7 => ?_
   refine wp_region_lit ?_
   refine sB 1 [(2, .int .i64 130)] hF (by kernel_rfl) fun a hF => ?_
   refine wpList_nil ?_
   refine hK7 _ _ ?_
   refine wp_ret ?_
   refine hR0 _ _ ?_
   refine ret_of hF hM (.tmp rfl (.nil)) ?_
   exact ⟨ret_int (by unfold bkE; omega), hM.bel⟩
 ·skip
  refine wp_region_lit ?_
  refine sB 1 [(3, .pointer (some ⟨bb1, 0, none⟩))] hF (by kernel_rfl) fun a hF => ?_
  refine wl (eL 4 1 0 (v := .int .i64 b) hF hM (by kernel_rfl) rfl rfl (by kernel_rfl) (by kernel_rfl) fun a w hF hM => ?_)
  refine wl (eM 5 (v := .bool false) hF hM (by kernel_rfl) (yld_call (f := 64) (args := #[.int .i64 b, .int .i64 1, .int .i64 1048576]) hF (by kernel_rfl) (fun _ => by kernel_rfl) (fun w hM => inside_no b 1 1048576 w (.inl hz1))) fun a w hF hM => ?_)
  refine sB 7 [(6, .bool true), (7, .bool true), (8, undef), (9, undef), (10, undef), (11, undef), (12, .bool true)] hF (by kernel_rfl) fun a hF => ?_
  refine wpList_nil ?_
  refine hK3 _ _ ?_
  refine cT hF (by kernel_rfl) (by kernel_rfl) ?_
  refine wp_seq_k fun K8 hK8 => ?_
  refine wp_region_lit ?_
  refine sB 1 [(2, .int .i64 130)] hF (by kernel_rfl) fun a hF => ?_
  refine wpList_nil ?_
  refine hK8 _ _ ?_
  refine wp_ret ?_
  refine hR0 _ _ ?_
  refine ret_of hF hM (.tmp rfl (.nil)) ?_
  exact ⟨ret_int (by unfold bkE; omega), hM.bel⟩

theorem right_yes (b r : Int) (w0 : World) (h : bkE b r = 0) :
    Calls Try.prog 52 #[.agg #[.int .i64 b, .int .i64 r]] w0 (Ret w0 (.bool true)) := by
 have h := bkE_ok h
 refine enterK 21 Try.func52 rfl rfl rfl ?_
 intro a hF Q0 hR0 hN0
 have hM := Mem.start w0
 refine wp_seq_k fun K1 hK1 => ?_
 refine wp_region_lit ?_
 refine wl (eN 1 1 (t := 67) (fun b => .pointer (some ⟨b, 0, none⟩)) #[.int .i64 b, .int .i64 r] hF hM (by kernel_rfl) (fun _ => by kernel_rfl) fun bb1 a w hF hM => ?_)
 refine sB 1 [(2, .bool false)] hF (by kernel_rfl) fun a hF => ?_
 refine wpList_nil ?_
 refine hK1 _ _ ?_
 refine wp_seq_k fun K2 hK2 => ?_
 refine wp_region_lit ?_
 refine sB 1 [(3, .pointer (some ⟨bb1, 0, none⟩))] hF (by kernel_rfl) fun a hF => ?_
 refine wl (eL 4 1 0 (v := .int .i64 b) hF hM (by kernel_rfl) rfl rfl (by kernel_rfl) (by kernel_rfl) fun a w hF hM => ?_)
 refine wl (eP 5 (v0 := .bool (decide (1 ≤ b))) (v := .bool true) hF (by kernel_rfl) (fun _ => by kernel_rfl) (bT (by omega)) fun a hF => ?_)
 refine sB 2 [(6, .bool true), (7, .pointer (some ⟨bb1, 0, none⟩))] hF (by kernel_rfl) fun a hF => ?_
 refine wl (eL 8 1 0 (v := .int .i64 b) hF hM (by kernel_rfl) rfl rfl (by kernel_rfl) (by kernel_rfl) fun a w hF hM => ?_)
 refine wl (eP 9 (v0 := .bool (decide (b ≤ 1048576))) (v := .bool true) hF (by kernel_rfl) (fun _ => by kernel_rfl) (bT (by omega)) fun a hF => ?_)
 refine sB 3 [(10, .bool true), (11, .bool true), (12, .pointer (some ⟨bb1, 1, none⟩))] hF (by kernel_rfl) fun a hF => ?_
 refine wl (eL 13 1 1 (v := .int .i64 r) hF hM (by kernel_rfl) rfl rfl (by kernel_rfl) (by kernel_rfl) fun a w hF hM => ?_)
 refine wl (eP 14 (v0 := .bool (decide (1 ≤ r))) (v := .bool true) hF (by kernel_rfl) (fun _ => by kernel_rfl) (bT (by omega)) fun a hF => ?_)
 refine sB 3 [(15, .bool true), (16, .bool true), (17, .pointer (some ⟨bb1, 1, none⟩))] hF (by kernel_rfl) fun a hF => ?_
 refine wl (eL 18 1 1 (v := .int .i64 r) hF hM (by kernel_rfl) rfl rfl (by kernel_rfl) (by kernel_rfl) fun a w hF hM => ?_)
 refine wl (eP 19 (v0 := .bool (decide (r ≤ 2097152))) (v := .bool true) hF (by kernel_rfl) (fun _ => by kernel_rfl) (bT (by omega)) fun a hF => ?_)
 refine sB 2 [(20, .bool true), (2, .bool true)] hF (by kernel_rfl) fun a hF => ?_
 refine wpList_nil ?_
 refine hK2 _ _ ?_
 refine wp_ret ?_
 refine hR0 _ _ ?_
 refine ret_of hF hM (.tmp rfl (.nil)) ?_
 exact ⟨rfl, hM.bel⟩

theorem right_no (b r : Int) (w0 : World) (h : ¬ bkE b r = 0) :
    Calls Try.prog 52 #[.agg #[.int .i64 b, .int .i64 r]] w0 (Ret w0 (.bool false)) := by
 refine enterK 21 Try.func52 rfl rfl rfl ?_
 intro a hF Q0 hR0 hN0
 have hM := Mem.start w0
 refine wp_seq_k fun K1 hK1 => ?_
 refine wp_region_lit ?_
 refine wl (eN 1 1 (t := 67) (fun b => .pointer (some ⟨b, 0, none⟩)) #[.int .i64 b, .int .i64 r] hF hM (by kernel_rfl) (fun _ => by kernel_rfl) fun bb1 a w hF hM => ?_)
 refine sB 1 [(2, .bool false)] hF (by kernel_rfl) fun a hF => ?_
 refine wpList_nil ?_
 refine hK1 _ _ ?_
 refine wp_seq_k fun K2 hK2 => ?_
 by_cases hz1 : 1 ≤ b
 ·skip
  by_cases hz2 : b ≤ 1048576
  ·skip
   by_cases hz3 : 1 ≤ r
   ·skip
    refine wp_region_lit ?_
    refine sB 1 [(3, .pointer (some ⟨bb1, 0, none⟩))] hF (by kernel_rfl) fun a hF => ?_
    refine wl (eL 4 1 0 (v := .int .i64 b) hF hM (by kernel_rfl) rfl rfl (by kernel_rfl) (by kernel_rfl) fun a w hF hM => ?_)
    refine wl (eP 5 (v0 := .bool (decide (1 ≤ b))) (v := .bool true) hF (by kernel_rfl) (fun _ => by kernel_rfl) (bT hz1) fun a hF => ?_)
    refine sB 2 [(6, .bool true), (7, .pointer (some ⟨bb1, 0, none⟩))] hF (by kernel_rfl) fun a hF => ?_
    refine wl (eL 8 1 0 (v := .int .i64 b) hF hM (by kernel_rfl) rfl rfl (by kernel_rfl) (by kernel_rfl) fun a w hF hM => ?_)
    refine wl (eP 9 (v0 := .bool (decide (b ≤ 1048576))) (v := .bool true) hF (by kernel_rfl) (fun _ => by kernel_rfl) (bT hz2) fun a hF => ?_)
    refine sB 3 [(10, .bool true), (11, .bool true), (12, .pointer (some ⟨bb1, 1, none⟩))] hF (by kernel_rfl) fun a hF => ?_
    refine wl (eL 13 1 1 (v := .int .i64 r) hF hM (by kernel_rfl) rfl rfl (by kernel_rfl) (by kernel_rfl) fun a w hF hM => ?_)
    refine wl (eP 14 (v0 := .bool (decide (1 ≤ r))) (v := .bool true) hF (by kernel_rfl) (fun _ => by kernel_rfl) (bT hz3) fun a hF => ?_)
    refine sB 3 [(15, .bool true), (16, .bool true), (17, .pointer (some ⟨bb1, 1, none⟩))] hF (by kernel_rfl) fun a hF => ?_
    refine wl (eL 18 1 1 (v := .int .i64 r) hF hM (by kernel_rfl) rfl rfl (by kernel_rfl) (by kernel_rfl) fun a w hF hM => ?_)
    refine sB 3 [(19, .bool (decide (r ≤ 2097152))), (20, .bool (decide (r ≤ 2097152))), (2, .bool (decide (r ≤ 2097152)))] hF (by kernel_rfl) fun a hF => ?_
    refine wpList_nil ?_
    refine hK2 _ _ ?_
    refine wp_ret ?_
    refine hR0 _ _ ?_
    refine ret_of hF hM (.tmp rfl (.nil)) ?_
    exact ⟨ret_bool (decide_eq_false (by unfold bkE at h; omega)), hM.bel⟩
   ·skip
    refine wp_region_lit ?_
    refine sB 1 [(3, .pointer (some ⟨bb1, 0, none⟩))] hF (by kernel_rfl) fun a hF => ?_
    refine wl (eL 4 1 0 (v := .int .i64 b) hF hM (by kernel_rfl) rfl rfl (by kernel_rfl) (by kernel_rfl) fun a w hF hM => ?_)
    refine wl (eP 5 (v0 := .bool (decide (1 ≤ b))) (v := .bool true) hF (by kernel_rfl) (fun _ => by kernel_rfl) (bT hz1) fun a hF => ?_)
    refine sB 2 [(6, .bool true), (7, .pointer (some ⟨bb1, 0, none⟩))] hF (by kernel_rfl) fun a hF => ?_
    refine wl (eL 8 1 0 (v := .int .i64 b) hF hM (by kernel_rfl) rfl rfl (by kernel_rfl) (by kernel_rfl) fun a w hF hM => ?_)
    refine wl (eP 9 (v0 := .bool (decide (b ≤ 1048576))) (v := .bool true) hF (by kernel_rfl) (fun _ => by kernel_rfl) (bT hz2) fun a hF => ?_)
    refine sB 3 [(10, .bool true), (11, .bool true), (12, .pointer (some ⟨bb1, 1, none⟩))] hF (by kernel_rfl) fun a hF => ?_
    refine wl (eL 13 1 1 (v := .int .i64 r) hF hM (by kernel_rfl) rfl rfl (by kernel_rfl) (by kernel_rfl) fun a w hF hM => ?_)
    refine wl (eP 14 (v0 := .bool (decide (1 ≤ r))) (v := .bool false) hF (by kernel_rfl) (fun _ => by kernel_rfl) (bF hz3) fun a hF => ?_)
    refine sB 7 [(15, .bool false), (16, .bool false), (17, undef), (18, undef), (19, undef), (20, .bool false), (2, .bool false)] hF (by kernel_rfl) fun a hF => ?_
    refine wpList_nil ?_
    refine hK2 _ _ ?_
    refine wp_ret ?_
    refine hR0 _ _ ?_
    refine ret_of hF hM (.tmp rfl (.nil)) ?_
    exact ⟨rfl, hM.bel⟩
  ·skip
   refine wp_region_lit ?_
   refine sB 1 [(3, .pointer (some ⟨bb1, 0, none⟩))] hF (by kernel_rfl) fun a hF => ?_
   refine wl (eL 4 1 0 (v := .int .i64 b) hF hM (by kernel_rfl) rfl rfl (by kernel_rfl) (by kernel_rfl) fun a w hF hM => ?_)
   refine wl (eP 5 (v0 := .bool (decide (1 ≤ b))) (v := .bool true) hF (by kernel_rfl) (fun _ => by kernel_rfl) (bT hz1) fun a hF => ?_)
   refine sB 2 [(6, .bool true), (7, .pointer (some ⟨bb1, 0, none⟩))] hF (by kernel_rfl) fun a hF => ?_
   refine wl (eL 8 1 0 (v := .int .i64 b) hF hM (by kernel_rfl) rfl rfl (by kernel_rfl) (by kernel_rfl) fun a w hF hM => ?_)
   refine wl (eP 9 (v0 := .bool (decide (b ≤ 1048576))) (v := .bool false) hF (by kernel_rfl) (fun _ => by kernel_rfl) (bF hz2) fun a hF => ?_)
   refine sB 12 [(10, .bool false), (11, .bool false), (12, undef), (13, undef), (14, undef), (15, .bool false), (16, .bool false), (17, undef), (18, undef), (19, undef), (20, .bool false), (2, .bool false)] hF (by kernel_rfl) fun a hF => ?_
   refine wpList_nil ?_
   refine hK2 _ _ ?_
   refine wp_ret ?_
   refine hR0 _ _ ?_
   refine ret_of hF hM (.tmp rfl (.nil)) ?_
   exact ⟨rfl, hM.bel⟩
 ·skip
  refine wp_region_lit ?_
  refine sB 1 [(3, .pointer (some ⟨bb1, 0, none⟩))] hF (by kernel_rfl) fun a hF => ?_
  refine wl (eL 4 1 0 (v := .int .i64 b) hF hM (by kernel_rfl) rfl rfl (by kernel_rfl) (by kernel_rfl) fun a w hF hM => ?_)
  refine wl (eP 5 (v0 := .bool (decide (1 ≤ b))) (v := .bool false) hF (by kernel_rfl) (fun _ => by kernel_rfl) (bF hz1) fun a hF => ?_)
  refine sB 16 [(6, .bool false), (7, undef), (8, undef), (9, undef), (10, .bool false), (11, .bool false), (12, undef), (13, undef), (14, undef), (15, .bool false), (16, .bool false), (17, undef), (18, undef), (19, undef), (20, .bool false), (2, .bool false)] hF (by kernel_rfl) fun a hF => ?_
  refine wpList_nil ?_
  refine hK2 _ _ ?_
  refine wp_ret ?_
  refine hR0 _ _ ?_
  refine ret_of hF hM (.tmp rfl (.nil)) ?_
  exact ⟨rfl, hM.bel⟩

theorem full_w (cb cr pb ps : Int) (w0 : World) (h : 0 ≤ cb ∧ cb ≤ 1048576 ∧ 0 ≤ pb ∧ pb ≤ 1048576) :
    Calls Try.prog 51 #[.agg #[.int .i64 cb, .int .i64 cr], .agg #[.int .i64 pb, .int .i64 ps]] w0 (Ret w0 (.agg #[.int .i64 (cb * 1048576), .int .i64 (pb * 1048576)])) := by
 refine enterK 12 Try.func51 rfl rfl rfl ?_
 intro a hF Q0 hR0 hN0
 have hM := Mem.start w0
 refine wp_seq_k fun K1 hK1 => ?_
 refine wp_region_lit ?_
 refine wl (eN 2 1 (t := 67) (fun b => .pointer (some ⟨b, 0, none⟩)) #[.int .i64 cb, .int .i64 cr] hF hM (by kernel_rfl) (fun _ => by kernel_rfl) fun bb1 a w hF hM => ?_)
 refine wl (eN 3 2 (t := 67) (fun b => .pointer (some ⟨b, 0, none⟩)) #[.int .i64 pb, .int .i64 ps] hF hM (by kernel_rfl) (fun _ => by kernel_rfl) fun bb2 a w hF hM => ?_)
 refine wl (eN 4 3 (t := 100) (fun b => .pointer (some ⟨b, 0, none⟩)) #[.int .i64 0, .int .i64 0] hF hM (by kernel_rfl) (fun _ => by kernel_rfl) fun bb3 a w hF hM => ?_)
 refine wpList_nil ?_
 refine hK1 _ _ ?_
 refine wp_seq_k fun K2 hK2 => ?_
 refine wp_region_lit ?_
 refine sB 1 [(5, .pointer (some ⟨bb1, 0, none⟩))] hF (by kernel_rfl) fun a hF => ?_
 refine wl (eL 6 1 0 (v := .int .i64 cb) hF hM (by kernel_rfl) rfl rfl (by kernel_rfl) (by kernel_rfl) fun a w hF hM => ?_)
 refine wl (eP 7 (v0 := .int .i64 (IntKind.i64.wrap (cb * 1048576))) (v := .int .i64 (cb * 1048576)) hF (by kernel_rfl) (fun _ => by kernel_rfl) (wi (by omega)) fun a hF => ?_)
 refine sB 1 [(8, .pointer (some ⟨bb2, 0, none⟩))] hF (by kernel_rfl) fun a hF => ?_
 refine wl (eL 9 2 0 (v := .int .i64 pb) hF hM (by kernel_rfl) rfl rfl (by kernel_rfl) (by kernel_rfl) fun a w hF hM => ?_)
 refine wl (eP 10 (v0 := .int .i64 (IntKind.i64.wrap (pb * 1048576))) (v := .int .i64 (pb * 1048576)) hF (by kernel_rfl) (fun _ => by kernel_rfl) (wi (by omega)) fun a hF => ?_)
 refine sB 1 [(11, .agg #[.int .i64 (cb * 1048576), .int .i64 (pb * 1048576)])] hF (by kernel_rfl) fun a hF => ?_
 refine wl (sStore (i := 3) (off := 0) (cs' := #[.int .i64 (cb * 1048576), .int .i64 (pb * 1048576)]) hF hM (by kernel_rfl) rfl rfl (by kernel_rfl) (by kernel_rfl) rfl (by kernel_rfl) fun w hM => ?_)
 refine wpList_nil ?_
 refine hK2 _ _ ?_
 refine wp_ret ?_
 refine hR0 _ _ ?_
 refine ret_of hF hM (.cell (i := 3) rfl rfl (v := .agg #[.int .i64 (cb * 1048576), .int .i64 (pb * 1048576)]) (by kernel_rfl) (.nil)) ?_
 exact ⟨rfl, hM.bel⟩

theorem meterNew_w (cb cr pb ps : Int) (w0 : World) :
    Calls Try.prog 33 #[.agg #[.int .i64 cb, .int .i64 cr], .agg #[.int .i64 pb, .int .i64 ps]] w0 (Ret w0 (.tuple #[.agg #[.int .i64 0, .int .i64 (newC cb cr pb ps), .int .i64 (newP cb cr pb ps)], .int .i64 (newE cb cr pb ps)])) := by
 refine enterK 35 Try.func33 rfl rfl rfl ?_
 intro a hF Q0 hR0 hN0
 have hM := Mem.start w0
 refine wp_seq_k fun K1 hK1 => ?_
 refine wp_region_lit ?_
 refine wl (eN 2 1 (t := 67) (fun b => .pointer (some ⟨b, 0, none⟩)) #[.int .i64 cb, .int .i64 cr] hF hM (by kernel_rfl) (fun _ => by kernel_rfl) fun bb1 a w hF hM => ?_)
 refine wl (eN 3 2 (t := 67) (fun b => .pointer (some ⟨b, 0, none⟩)) #[.int .i64 pb, .int .i64 ps] hF hM (by kernel_rfl) (fun _ => by kernel_rfl) fun bb2 a w hF hM => ?_)
 refine wl (eN 4 3 (t := 80) (fun b => .pointer (some ⟨b, 0, none⟩)) #[.int .i64 0, .int .i64 0, .int .i64 0] hF hM (by kernel_rfl) (fun _ => by kernel_rfl) fun bb3 a w hF hM => ?_)
 refine sB 1 [(5, .int .i64 0)] hF (by kernel_rfl) fun a hF => ?_
 refine wpList_nil ?_
 refine hK1 _ _ ?_
 refine wp_seq_k fun K2 hK2 => ?_
 refine wp_seq_k fun K3 hK3 => ?_
 refine wp_region_lit ?_
 refine wl (eL 9 1 0 (v := .agg #[.int .i64 cb, .int .i64 cr]) hF hM (by kernel_rfl) rfl rfl (by kernel_rfl) (by kernel_rfl) fun a w hF hM => ?_)
 refine wl (eM 10 (v := .int .i64 (bkE cb cr)) hF hM (by kernel_rfl) (yld_call (f := 50) (args := #[.agg #[.int .i64 cb, .int .i64 cr]]) hF (by kernel_rfl) (fun _ => by kernel_rfl) (fun w hM => bkCheck_w cb cr w)) fun a w hF hM => ?_)
 refine sB 1 [(6, .int .i64 (bkE cb cr))] hF (by kernel_rfl) fun a hF => ?_
 refine wpList_nil ?_
 refine hK3 _ _ ?_
 refine wp_seq_k fun K4 hK4 => ?_
 refine wp_region_lit ?_
 refine sB 2 [(11, .int .i64 (bkE cb cr)), (12, .bool (!decide (bkE cb cr = 0)))] hF (by kernel_rfl) fun a hF => ?_
 refine wpList_nil ?_
 refine hK4 _ _ ?_
 by_cases hz1 : bkE cb cr = 0
 ·skip
  have hz2 := bkE_ok hz1
  replace hF := hF.c hF (i := 12) (v := .bool false) rfl (nT hz1)
  refine cF hF (by kernel_rfl) (by kernel_rfl) ?_
  refine wp_skip ?_
  refine hK2 _ _ ?_
  refine wp_seq_k fun K5 hK5 => ?_
  refine wp_seq_k fun K6 hK6 => ?_
  refine wp_region_lit ?_
  refine wl (eL 15 2 0 (v := .agg #[.int .i64 pb, .int .i64 ps]) hF hM (by kernel_rfl) rfl rfl (by kernel_rfl) (by kernel_rfl) fun a w hF hM => ?_)
  refine wl (eM 16 (v := .int .i64 (bkE pb ps)) hF hM (by kernel_rfl) (yld_call (f := 50) (args := #[.agg #[.int .i64 pb, .int .i64 ps]]) hF (by kernel_rfl) (fun _ => by kernel_rfl) (fun w hM => bkCheck_w pb ps w)) fun a w hF hM => ?_)
  refine sB 1 [(7, .int .i64 (bkE pb ps))] hF (by kernel_rfl) fun a hF => ?_
  refine wpList_nil ?_
  refine hK6 _ _ ?_
  refine wp_seq_k fun K7 hK7 => ?_
  refine wp_region_lit ?_
  refine sB 2 [(17, .int .i64 (bkE pb ps)), (18, .bool (!decide (bkE pb ps = 0)))] hF (by kernel_rfl) fun a hF => ?_
  refine wpList_nil ?_
  refine hK7 _ _ ?_
  by_cases hz3 : bkE pb ps = 0
  ·skip
   have hz4 := bkE_ok hz3
   replace hF := hF.c hF (i := 18) (v := .bool false) rfl (nT hz3)
   refine cF hF (by kernel_rfl) (by kernel_rfl) ?_
   refine wp_skip ?_
   refine hK5 _ _ ?_
   refine wp_seq_k fun K8 hK8 => ?_
   refine wp_seq_k fun K9 hK9 => ?_
   refine wp_region_lit ?_
   refine sB 1 [(21, .pointer (some ⟨bb2, 1, none⟩))] hF (by kernel_rfl) fun a hF => ?_
   refine wl (eL 22 2 1 (v := .int .i64 ps) hF hM (by kernel_rfl) rfl rfl (by kernel_rfl) (by kernel_rfl) fun a w hF hM => ?_)
   refine sB 1 [(23, .pointer (some ⟨bb1, 1, none⟩))] hF (by kernel_rfl) fun a hF => ?_
   refine wl (eL 24 1 1 (v := .int .i64 cr) hF hM (by kernel_rfl) rfl rfl (by kernel_rfl) (by kernel_rfl) fun a w hF hM => ?_)
   refine sB 1 [(25, .bool (decide (ps < cr)))] hF (by kernel_rfl) fun a hF => ?_
   refine wpList_nil ?_
   refine hK9 _ _ ?_
   by_cases hz5 : ps < cr
   ·skip
    replace hF := hF.c hF (i := 25) (v := .bool true) rfl (bT hz5)
    refine cT hF (by kernel_rfl) (by kernel_rfl) ?_
    refine wp_seq_k fun K10 hK10 => ?_
    refine wp_region_lit ?_
    refine sB 1 [(26, .agg #[.int .i64 0, .int .i64 0, .int .i64 0])] hF (by kernel_rfl) fun a hF => ?_
    refine wl (sStore (i := 3) (off := 0) (cs' := #[.int .i64 0, .int .i64 0, .int .i64 0]) hF hM (by kernel_rfl) rfl rfl (by kernel_rfl) (by kernel_rfl) rfl (by kernel_rfl) fun w hM => ?_)
    refine sB 1 [(5, .int .i64 2)] hF (by kernel_rfl) fun a hF => ?_
    refine wpList_nil ?_
    refine hK10 _ _ ?_
    refine wp_ret ?_
    refine hR0 _ _ ?_
    refine ret_of hF hM (.cell (i := 3) rfl rfl (v := .agg #[.int .i64 0, .int .i64 0, .int .i64 0]) (by kernel_rfl) (.tmp rfl (.nil))) ?_
    have he : newE cb cr pb ps = 2 := by unfold newE; unfold bkE at *; omega
    refine ⟨ret_eq ?_, hM.bel⟩
    unfold newC newP; rw [he]; rfl
   ·skip
    replace hF := hF.c hF (i := 25) (v := .bool false) rfl (bF hz5)
    refine cF hF (by kernel_rfl) (by kernel_rfl) ?_
    refine wp_skip ?_
    refine hK8 _ _ ?_
    refine wp_seq_k fun K11 hK11 => ?_
    refine wp_region_lit ?_
    refine wl (eL 27 1 0 (v := .agg #[.int .i64 cb, .int .i64 cr]) hF hM (by kernel_rfl) rfl rfl (by kernel_rfl) (by kernel_rfl) fun a w hF hM => ?_)
    refine wl (eL 28 2 0 (v := .agg #[.int .i64 pb, .int .i64 ps]) hF hM (by kernel_rfl) rfl rfl (by kernel_rfl) (by kernel_rfl) fun a w hF hM => ?_)
    refine wl (eM 29 (v := .agg #[.int .i64 (cb * 1048576), .int .i64 (pb * 1048576)]) hF hM (by kernel_rfl) (yld_call (f := 51) (args := #[.agg #[.int .i64 cb, .int .i64 cr], .agg #[.int .i64 pb, .int .i64 ps]]) hF (by kernel_rfl) (fun _ => by kernel_rfl) (fun w hM => full_w cb cr pb ps w (by omega))) fun a w hF hM => ?_)
    refine wl (eN 8 4 (t := 100) (fun b => .pointer (some ⟨b, 0, none⟩)) #[.int .i64 0, .int .i64 0] hF hM (by kernel_rfl) (fun _ => by kernel_rfl) fun bb4 a w hF hM => ?_)
    refine wl (sStore (i := 4) (off := 0) (cs' := #[.int .i64 (cb * 1048576), .int .i64 (pb * 1048576)]) hF hM (by kernel_rfl) rfl rfl (by kernel_rfl) (by kernel_rfl) rfl (by kernel_rfl) fun w hM => ?_)
    refine wpList_nil ?_
    refine hK11 _ _ ?_
    refine wp_seq_k fun K12 hK12 => ?_
    refine wp_region_lit ?_
    refine sB 1 [(30, .pointer (some ⟨bb4, 0, none⟩))] hF (by kernel_rfl) fun a hF => ?_
    refine wl (eL 31 4 0 (v := .int .i64 (cb * 1048576)) hF hM (by kernel_rfl) rfl rfl (by kernel_rfl) (by kernel_rfl) fun a w hF hM => ?_)
    refine sB 1 [(32, .pointer (some ⟨bb4, 1, none⟩))] hF (by kernel_rfl) fun a hF => ?_
    refine wl (eL 33 4 1 (v := .int .i64 (pb * 1048576)) hF hM (by kernel_rfl) rfl rfl (by kernel_rfl) (by kernel_rfl) fun a w hF hM => ?_)
    refine sB 1 [(34, .agg #[.int .i64 0, .int .i64 (cb * 1048576), .int .i64 (pb * 1048576)])] hF (by kernel_rfl) fun a hF => ?_
    refine wl (sStore (i := 3) (off := 0) (cs' := #[.int .i64 0, .int .i64 (cb * 1048576), .int .i64 (pb * 1048576)]) hF hM (by kernel_rfl) rfl rfl (by kernel_rfl) (by kernel_rfl) rfl (by kernel_rfl) fun w hM => ?_)
    refine sB 1 [(5, .int .i64 0)] hF (by kernel_rfl) fun a hF => ?_
    refine wpList_nil ?_
    refine hK12 _ _ ?_
    refine wp_ret ?_
    refine hR0 _ _ ?_
    refine ret_of hF hM (.cell (i := 3) rfl rfl (v := .agg #[.int .i64 0, .int .i64 (cb * 1048576), .int .i64 (pb * 1048576)]) (by kernel_rfl) (.tmp rfl (.nil))) ?_
    have he : newE cb cr pb ps = 0 := by unfold newE; unfold bkE at *; omega
    refine ⟨ret_eq ?_, hM.bel⟩
    unfold newC newP; rw [he]; rfl
  ·skip
   replace hF := hF.c hF (i := 18) (v := .bool true) rfl (nF hz3)
   refine cT hF (by kernel_rfl) (by kernel_rfl) ?_
   refine wp_seq_k fun K13 hK13 => ?_
   refine wp_region_lit ?_
   refine sB 2 [(19, .agg #[.int .i64 0, .int .i64 0, .int .i64 0]), (20, .int .i64 (bkE pb ps))] hF (by kernel_rfl) fun a hF => ?_
   refine wl (sStore (i := 3) (off := 0) (cs' := #[.int .i64 0, .int .i64 0, .int .i64 0]) hF hM (by kernel_rfl) rfl rfl (by kernel_rfl) (by kernel_rfl) rfl (by kernel_rfl) fun w hM => ?_)
   refine sB 1 [(5, .int .i64 (bkE pb ps))] hF (by kernel_rfl) fun a hF => ?_
   refine wpList_nil ?_
   refine hK13 _ _ ?_
   refine wp_ret ?_
   refine hR0 _ _ ?_
   refine ret_of hF hM (.cell (i := 3) rfl rfl (v := .agg #[.int .i64 0, .int .i64 0, .int .i64 0]) (by kernel_rfl) (.tmp rfl (.nil))) ?_
   have he : newE cb cr pb ps = 130 := by unfold newE; unfold bkE at *; omega
   refine ⟨ret_eq ?_, hM.bel⟩
   unfold newC newP; rw [he]; first | rfl | (simp only [pack]; unfold bkE at *; simp; omega)
 ·skip
  replace hF := hF.c hF (i := 12) (v := .bool true) rfl (nF hz1)
  refine cT hF (by kernel_rfl) (by kernel_rfl) ?_
  refine wp_seq_k fun K14 hK14 => ?_
  refine wp_region_lit ?_
  refine sB 2 [(13, .agg #[.int .i64 0, .int .i64 0, .int .i64 0]), (14, .int .i64 (bkE cb cr))] hF (by kernel_rfl) fun a hF => ?_
  refine wl (sStore (i := 3) (off := 0) (cs' := #[.int .i64 0, .int .i64 0, .int .i64 0]) hF hM (by kernel_rfl) rfl rfl (by kernel_rfl) (by kernel_rfl) rfl (by kernel_rfl) fun w hM => ?_)
  refine sB 1 [(5, .int .i64 (bkE cb cr))] hF (by kernel_rfl) fun a hF => ?_
  refine wpList_nil ?_
  refine hK14 _ _ ?_
  refine wp_ret ?_
  refine hR0 _ _ ?_
  refine ret_of hF hM (.cell (i := 3) rfl rfl (v := .agg #[.int .i64 0, .int .i64 0, .int .i64 0]) (by kernel_rfl) (.tmp rfl (.nil))) ?_
  have he : newE cb cr pb ps = 130 := by unfold newE; unfold bkE at *; omega
  refine ⟨ret_eq ?_, hM.bel⟩
  unfold newC newP; rw [he]; first | rfl | (simp only [pack]; unfold bkE at *; simp; omega)

theorem refNew_w (cb cr pb ps : Int) (w0 : World) :
    Calls Try.prog 34 #[.agg #[.int .i64 cb, .int .i64 cr], .agg #[.int .i64 pb, .int .i64 ps]] w0 (Ret w0 (.tuple #[.agg #[.int .i64 0, .int .i64 (newC cb cr pb ps), .int .i64 (newP cb cr pb ps)], .int .i64 (newE cb cr pb ps)])) := by
 refine enterK 28 Try.func34 rfl rfl rfl ?_
 intro a hF Q0 hR0 hN0
 have hM := Mem.start w0
 refine wp_seq_k fun K1 hK1 => ?_
 refine wp_region_lit ?_
 refine wl (eN 2 1 (t := 67) (fun b => .pointer (some ⟨b, 0, none⟩)) #[.int .i64 cb, .int .i64 cr] hF hM (by kernel_rfl) (fun _ => by kernel_rfl) fun bb1 a w hF hM => ?_)
 refine wl (eN 3 2 (t := 67) (fun b => .pointer (some ⟨b, 0, none⟩)) #[.int .i64 pb, .int .i64 ps] hF hM (by kernel_rfl) (fun _ => by kernel_rfl) fun bb2 a w hF hM => ?_)
 refine wl (eN 4 3 (t := 80) (fun b => .pointer (some ⟨b, 0, none⟩)) #[.int .i64 0, .int .i64 0, .int .i64 0] hF hM (by kernel_rfl) (fun _ => by kernel_rfl) fun bb3 a w hF hM => ?_)
 refine sB 1 [(5, .int .i64 0)] hF (by kernel_rfl) fun a hF => ?_
 refine wpList_nil ?_
 refine hK1 _ _ ?_
 refine wp_seq_k fun K2 hK2 => ?_
 refine wp_seq_k fun K3 hK3 => ?_
 by_cases hz1 : bkE cb cr = 0
 ·skip
  have hz2 := bkE_ok hz1
  by_cases hz3 : bkE pb ps = 0
  ·skip
   have hz4 := bkE_ok hz3
   refine wp_region_lit ?_
   refine wl (eL 6 1 0 (v := .agg #[.int .i64 cb, .int .i64 cr]) hF hM (by kernel_rfl) rfl rfl (by kernel_rfl) (by kernel_rfl) fun a w hF hM => ?_)
   refine wl (eM 7 (v := .bool true) hF hM (by kernel_rfl) (yld_call (f := 52) (args := #[.agg #[.int .i64 cb, .int .i64 cr]]) hF (by kernel_rfl) (fun _ => by kernel_rfl) (fun w hM => right_yes cb cr w hz1)) fun a w hF hM => ?_)
   refine sB 2 [(8, .bool false), (9, .bool false)] hF (by kernel_rfl) fun a hF => ?_
   refine wl (eL 10 2 0 (v := .agg #[.int .i64 pb, .int .i64 ps]) hF hM (by kernel_rfl) rfl rfl (by kernel_rfl) (by kernel_rfl) fun a w hF hM => ?_)
   refine wl (eM 11 (v := .bool true) hF hM (by kernel_rfl) (yld_call (f := 52) (args := #[.agg #[.int .i64 pb, .int .i64 ps]]) hF (by kernel_rfl) (fun _ => by kernel_rfl) (fun w hM => right_yes pb ps w hz3)) fun a w hF hM => ?_)
   refine sB 2 [(12, .bool false), (13, .bool false)] hF (by kernel_rfl) fun a hF => ?_
   refine wpList_nil ?_
   refine hK3 _ _ ?_
   refine cF hF (by kernel_rfl) (by kernel_rfl) ?_
   refine wp_skip ?_
   refine hK2 _ _ ?_
   refine wp_seq_k fun K4 hK4 => ?_
   refine wp_seq_k fun K5 hK5 => ?_
   refine wp_region_lit ?_
   refine sB 1 [(15, .pointer (some ⟨bb2, 1, none⟩))] hF (by kernel_rfl) fun a hF => ?_
   refine wl (eL 16 2 1 (v := .int .i64 ps) hF hM (by kernel_rfl) rfl rfl (by kernel_rfl) (by kernel_rfl) fun a w hF hM => ?_)
   refine sB 1 [(17, .pointer (some ⟨bb1, 1, none⟩))] hF (by kernel_rfl) fun a hF => ?_
   refine wl (eL 18 1 1 (v := .int .i64 cr) hF hM (by kernel_rfl) rfl rfl (by kernel_rfl) (by kernel_rfl) fun a w hF hM => ?_)
   refine sB 1 [(19, .bool (decide (ps < cr)))] hF (by kernel_rfl) fun a hF => ?_
   refine wpList_nil ?_
   refine hK5 _ _ ?_
   by_cases hz5 : ps < cr
   ·skip
    replace hF := hF.c hF (i := 19) (v := .bool true) rfl (bT hz5)
    refine cT hF (by kernel_rfl) (by kernel_rfl) ?_
    refine wp_seq_k fun K6 hK6 => ?_
    refine wp_region_lit ?_
    refine sB 1 [(20, .agg #[.int .i64 0, .int .i64 0, .int .i64 0])] hF (by kernel_rfl) fun a hF => ?_
    refine wl (sStore (i := 3) (off := 0) (cs' := #[.int .i64 0, .int .i64 0, .int .i64 0]) hF hM (by kernel_rfl) rfl rfl (by kernel_rfl) (by kernel_rfl) rfl (by kernel_rfl) fun w hM => ?_)
    refine sB 1 [(5, .int .i64 2)] hF (by kernel_rfl) fun a hF => ?_
    refine wpList_nil ?_
    refine hK6 _ _ ?_
    refine wp_ret ?_
    refine hR0 _ _ ?_
    refine ret_of hF hM (.cell (i := 3) rfl rfl (v := .agg #[.int .i64 0, .int .i64 0, .int .i64 0]) (by kernel_rfl) (.tmp rfl (.nil))) ?_
    have he : newE cb cr pb ps = 2 := by unfold newE; unfold bkE at *; omega
    refine ⟨ret_eq ?_, hM.bel⟩
    unfold newC newP; rw [he]; rfl
   ·skip
    replace hF := hF.c hF (i := 19) (v := .bool false) rfl (bF hz5)
    refine cF hF (by kernel_rfl) (by kernel_rfl) ?_
    refine wp_skip ?_
    refine hK4 _ _ ?_
    refine wp_seq_k fun K7 hK7 => ?_
    refine wp_region_lit ?_
    refine sB 1 [(21, .pointer (some ⟨bb1, 0, none⟩))] hF (by kernel_rfl) fun a hF => ?_
    refine wl (eL 22 1 0 (v := .int .i64 cb) hF hM (by kernel_rfl) rfl rfl (by kernel_rfl) (by kernel_rfl) fun a w hF hM => ?_)
    refine wl (eP 23 (v0 := .int .i64 (IntKind.i64.wrap (cb * 1048576))) (v := .int .i64 (cb * 1048576)) hF (by kernel_rfl) (fun _ => by kernel_rfl) (wi (by omega)) fun a hF => ?_)
    refine sB 1 [(24, .pointer (some ⟨bb2, 0, none⟩))] hF (by kernel_rfl) fun a hF => ?_
    refine wl (eL 25 2 0 (v := .int .i64 pb) hF hM (by kernel_rfl) rfl rfl (by kernel_rfl) (by kernel_rfl) fun a w hF hM => ?_)
    refine wl (eP 26 (v0 := .int .i64 (IntKind.i64.wrap (pb * 1048576))) (v := .int .i64 (pb * 1048576)) hF (by kernel_rfl) (fun _ => by kernel_rfl) (wi (by omega)) fun a hF => ?_)
    refine sB 1 [(27, .agg #[.int .i64 0, .int .i64 (cb * 1048576), .int .i64 (pb * 1048576)])] hF (by kernel_rfl) fun a hF => ?_
    refine wl (sStore (i := 3) (off := 0) (cs' := #[.int .i64 0, .int .i64 (cb * 1048576), .int .i64 (pb * 1048576)]) hF hM (by kernel_rfl) rfl rfl (by kernel_rfl) (by kernel_rfl) rfl (by kernel_rfl) fun w hM => ?_)
    refine sB 1 [(5, .int .i64 0)] hF (by kernel_rfl) fun a hF => ?_
    refine wpList_nil ?_
    refine hK7 _ _ ?_
    refine wp_ret ?_
    refine hR0 _ _ ?_
    refine ret_of hF hM (.cell (i := 3) rfl rfl (v := .agg #[.int .i64 0, .int .i64 (cb * 1048576), .int .i64 (pb * 1048576)]) (by kernel_rfl) (.tmp rfl (.nil))) ?_
    have he : newE cb cr pb ps = 0 := by unfold newE; unfold bkE at *; omega
    refine ⟨ret_eq ?_, hM.bel⟩
    unfold newC newP; rw [he]; rfl
  ·skip
   refine wp_region_lit ?_
   refine wl (eL 6 1 0 (v := .agg #[.int .i64 cb, .int .i64 cr]) hF hM (by kernel_rfl) rfl rfl (by kernel_rfl) (by kernel_rfl) fun a w hF hM => ?_)
   refine wl (eM 7 (v := .bool true) hF hM (by kernel_rfl) (yld_call (f := 52) (args := #[.agg #[.int .i64 cb, .int .i64 cr]]) hF (by kernel_rfl) (fun _ => by kernel_rfl) (fun w hM => right_yes cb cr w hz1)) fun a w hF hM => ?_)
   refine sB 2 [(8, .bool false), (9, .bool false)] hF (by kernel_rfl) fun a hF => ?_
   refine wl (eL 10 2 0 (v := .agg #[.int .i64 pb, .int .i64 ps]) hF hM (by kernel_rfl) rfl rfl (by kernel_rfl) (by kernel_rfl) fun a w hF hM => ?_)
   refine wl (eM 11 (v := .bool false) hF hM (by kernel_rfl) (yld_call (f := 52) (args := #[.agg #[.int .i64 pb, .int .i64 ps]]) hF (by kernel_rfl) (fun _ => by kernel_rfl) (fun w hM => right_no pb ps w hz3)) fun a w hF hM => ?_)
   refine sB 2 [(12, .bool true), (13, .bool true)] hF (by kernel_rfl) fun a hF => ?_
   refine wpList_nil ?_
   refine hK3 _ _ ?_
   refine cT hF (by kernel_rfl) (by kernel_rfl) ?_
   refine wp_seq_k fun K8 hK8 => ?_
   refine wp_region_lit ?_
   refine sB 1 [(14, .agg #[.int .i64 0, .int .i64 0, .int .i64 0])] hF (by kernel_rfl) fun a hF => ?_
   refine wl (sStore (i := 3) (off := 0) (cs' := #[.int .i64 0, .int .i64 0, .int .i64 0]) hF hM (by kernel_rfl) rfl rfl (by kernel_rfl) (by kernel_rfl) rfl (by kernel_rfl) fun w hM => ?_)
   refine sB 1 [(5, .int .i64 130)] hF (by kernel_rfl) fun a hF => ?_
   refine wpList_nil ?_
   refine hK8 _ _ ?_
   refine wp_ret ?_
   refine hR0 _ _ ?_
   refine ret_of hF hM (.cell (i := 3) rfl rfl (v := .agg #[.int .i64 0, .int .i64 0, .int .i64 0]) (by kernel_rfl) (.tmp rfl (.nil))) ?_
   have he : newE cb cr pb ps = 130 := by unfold newE; unfold bkE at *; omega
   refine ⟨ret_eq ?_, hM.bel⟩
   unfold newC newP; rw [he]; first | rfl | (simp only [pack]; unfold bkE at *; simp; omega)
 ·skip
  refine wp_region_lit ?_
  refine wl (eL 6 1 0 (v := .agg #[.int .i64 cb, .int .i64 cr]) hF hM (by kernel_rfl) rfl rfl (by kernel_rfl) (by kernel_rfl) fun a w hF hM => ?_)
  refine wl (eM 7 (v := .bool false) hF hM (by kernel_rfl) (yld_call (f := 52) (args := #[.agg #[.int .i64 cb, .int .i64 cr]]) hF (by kernel_rfl) (fun _ => by kernel_rfl) (fun w hM => right_no cb cr w hz1)) fun a w hF hM => ?_)
  refine sB 6 [(8, .bool true), (9, .bool true), (10, undef), (11, undef), (12, undef), (13, .bool true)] hF (by kernel_rfl) fun a hF => ?_
  refine wpList_nil ?_
  refine hK3 _ _ ?_
  refine cT hF (by kernel_rfl) (by kernel_rfl) ?_
  refine wp_seq_k fun K9 hK9 => ?_
  refine wp_region_lit ?_
  refine sB 1 [(14, .agg #[.int .i64 0, .int .i64 0, .int .i64 0])] hF (by kernel_rfl) fun a hF => ?_
  refine wl (sStore (i := 3) (off := 0) (cs' := #[.int .i64 0, .int .i64 0, .int .i64 0]) hF hM (by kernel_rfl) rfl rfl (by kernel_rfl) (by kernel_rfl) rfl (by kernel_rfl) fun w hM => ?_)
  refine sB 1 [(5, .int .i64 130)] hF (by kernel_rfl) fun a hF => ?_
  refine wpList_nil ?_
  refine hK9 _ _ ?_
  refine wp_ret ?_
  refine hR0 _ _ ?_
  refine ret_of hF hM (.cell (i := 3) rfl rfl (v := .agg #[.int .i64 0, .int .i64 0, .int .i64 0]) (by kernel_rfl) (.tmp rfl (.nil))) ?_
  have he : newE cb cr pb ps = 130 := by unfold newE; unfold bkE at *; omega
  refine ⟨ret_eq ?_, hM.bel⟩
  unfold newC newP; rw [he]; first | rfl | (simp only [pack]; unfold bkE at *; simp; omega)

theorem meterNew_ok (cb cr pb ps : Int) (w : World) (h : newE cb cr pb ps = 0) : Calls Try.prog 33 #[.agg #[.int .i64 cb, .int .i64 cr], .agg #[.int .i64 pb, .int .i64 ps]] w (Ret w (.tuple #[.agg #[.int .i64 0, .int .i64 (cb * 1048576), .int .i64 (pb * 1048576)], .int .i64 0])) := by
  have := meterNew_w cb cr pb ps w
  simp only [newC, newP, h, if_true] at this
  exact this
theorem refNew_ok (cb cr pb ps : Int) (w : World) (h : newE cb cr pb ps = 0) : Calls Try.prog 34 #[.agg #[.int .i64 cb, .int .i64 cr], .agg #[.int .i64 pb, .int .i64 ps]] w (Ret w (.tuple #[.agg #[.int .i64 0, .int .i64 (cb * 1048576), .int .i64 (pb * 1048576)], .int .i64 0])) := by
  have := refNew_w cb cr pb ps w
  simp only [newC, newP, h, if_true] at this
  exact this
end Go.Proofs.Ytogeficooemngaa
