/-
  The reference Find.
-/
import Derived.Test.YtogeficooemngaaFiH
namespace Go.Proofs.Ytogeficooemngaa
open Go.RowKit
set_option linter.unusedVariables false
set_option linter.unusedSimpArgs false

set_option maxRecDepth 100000 in
theorem rItem33_w (i1 i2 i3 i4 i5 : Int) (w0 : World) :
    Calls Try.prog 18 #[.agg #[.int .i64 i1, .int .i64 i2, .int .i64 i3, .int .i64 i4, .int .i64 i5]] w0 (Ret w0 (.bool (viB i1 i2 i3 i4 i5))) := by
 refine enterK 26 Try.func18 rfl rfl rfl ?_
 intro a hF Q0 hR0 hN0
 have hM := Mem.start w0
 refine wp_seq_k fun K1 hK1 => ?_
 refine wp_region_lit ?_
 refine wl (eN 1 1 (t := 39) (fun b => .pointer (some ⟨b, 0, none⟩)) #[.int .i64 i1, .int .i64 i2, .int .i64 i3, .int .i64 i4, .int .i64 i5] hF hM (by kernel_rfl) (fun _ => by kernel_rfl) fun bb1 a w hF hM => ?_)
 refine sB 1 [(2, .bool false)] hF (by kernel_rfl) fun a hF => ?_
 refine wpList_nil ?_
 refine hK1 _ _ ?_
 refine wp_seq_k fun K2 hK2 => ?_
 by_cases hz1 : 0 ≤ i1
 ·skip
  by_cases hz2 : i1 ≤ 1099511627776
  ·skip
   by_cases hz3 : 0 ≤ i2
   ·skip
    by_cases hz4 : i2 ≤ 1099511627776
    ·skip
     by_cases hz5 : 0 ≤ i5
     ·skip
      by_cases hz6 : i5 ≤ 1099511627776
      ·skip
       by_cases hz7 : 0 ≤ i3
       ·skip
        by_cases hz8 : i3 ≤ 7
        ·skip
         by_cases hz9 : 84 ≤ i4
         ·skip
          by_cases hz10 : i4 ≤ 1542
          ·skip
           refine wp_region_lit ?_
           refine sB 1 [(3, .pointer (some ⟨bb1, 0, none⟩))] hF (by kernel_rfl) fun a hF => ?_
           refine wl (eL 4 1 0 (v := .int .i64 i1) hF hM (by kernel_rfl) rfl rfl (by kernel_rfl) (by kernel_rfl) fun a w hF hM => ?_)
           refine wl (eM 5 (v := .bool true) hF hM (by kernel_rfl) (yld_call (f := 27) (args := #[.int .i64 i1, .int .i64 0, .int .i64 1099511627776]) hF (by kernel_rfl) (fun _ => by kernel_rfl) (fun w hM => rin_yes i1 0 1099511627776 w hz1 hz2)) fun a w hF hM => ?_)
           refine sB 2 [(6, .bool true), (7, .pointer (some ⟨bb1, 1, none⟩))] hF (by kernel_rfl) fun a hF => ?_
           refine wl (eL 8 1 1 (v := .int .i64 i2) hF hM (by kernel_rfl) rfl rfl (by kernel_rfl) (by kernel_rfl) fun a w hF hM => ?_)
           refine wl (eM 9 (v := .bool true) hF hM (by kernel_rfl) (yld_call (f := 27) (args := #[.int .i64 i2, .int .i64 0, .int .i64 1099511627776]) hF (by kernel_rfl) (fun _ => by kernel_rfl) (fun w hM => rin_yes i2 0 1099511627776 w hz3 hz4)) fun a w hF hM => ?_)
           refine sB 3 [(10, .bool true), (11, .bool true), (12, .pointer (some ⟨bb1, 4, none⟩))] hF (by kernel_rfl) fun a hF => ?_
           refine wl (eL 13 1 4 (v := .int .i64 i5) hF hM (by kernel_rfl) rfl rfl (by kernel_rfl) (by kernel_rfl) fun a w hF hM => ?_)
           refine wl (eM 14 (v := .bool true) hF hM (by kernel_rfl) (yld_call (f := 27) (args := #[.int .i64 i5, .int .i64 0, .int .i64 1099511627776]) hF (by kernel_rfl) (fun _ => by kernel_rfl) (fun w hM => rin_yes i5 0 1099511627776 w hz5 hz6)) fun a w hF hM => ?_)
           refine sB 3 [(15, .bool true), (16, .bool true), (17, .pointer (some ⟨bb1, 2, none⟩))] hF (by kernel_rfl) fun a hF => ?_
           refine wl (eL 18 1 2 (v := .int .i64 i3) hF hM (by kernel_rfl) rfl rfl (by kernel_rfl) (by kernel_rfl) fun a w hF hM => ?_)
           refine wl (eM 19 (v := .bool true) hF hM (by kernel_rfl) (yld_call (f := 27) (args := #[.int .i64 i3, .int .i64 0, .int .i64 7]) hF (by kernel_rfl) (fun _ => by kernel_rfl) (fun w hM => rin_yes i3 0 7 w hz7 hz8)) fun a w hF hM => ?_)
           refine sB 3 [(20, .bool true), (21, .bool true), (22, .pointer (some ⟨bb1, 3, none⟩))] hF (by kernel_rfl) fun a hF => ?_
           refine wl (eL 23 1 3 (v := .int .i64 i4) hF hM (by kernel_rfl) rfl rfl (by kernel_rfl) (by kernel_rfl) fun a w hF hM => ?_)
           refine wl (eM 24 (v := .bool true) hF hM (by kernel_rfl) (yld_call (f := 27) (args := #[.int .i64 i4, .int .i64 84, .int .i64 1542]) hF (by kernel_rfl) (fun _ => by kernel_rfl) (fun w hM => rin_yes i4 84 1542 w hz9 hz10)) fun a w hF hM => ?_)
           refine sB 2 [(25, .bool true), (2, .bool true)] hF (by kernel_rfl) fun a hF => ?_
           refine wpList_nil ?_
           refine hK2 _ _ ?_
           refine wp_ret ?_
           refine hR0 _ _ ?_
           refine ret_of hF hM (.tmp rfl (.nil)) ?_
           exact ⟨ret_bool (decide_eq_true (by unfold viP; omega)).symm, hM.bel⟩
          ·skip
           refine wp_region_lit ?_
           refine sB 1 [(3, .pointer (some ⟨bb1, 0, none⟩))] hF (by kernel_rfl) fun a hF => ?_
           refine wl (eL 4 1 0 (v := .int .i64 i1) hF hM (by kernel_rfl) rfl rfl (by kernel_rfl) (by kernel_rfl) fun a w hF hM => ?_)
           refine wl (eM 5 (v := .bool true) hF hM (by kernel_rfl) (yld_call (f := 27) (args := #[.int .i64 i1, .int .i64 0, .int .i64 1099511627776]) hF (by kernel_rfl) (fun _ => by kernel_rfl) (fun w hM => rin_yes i1 0 1099511627776 w hz1 hz2)) fun a w hF hM => ?_)
           refine sB 2 [(6, .bool true), (7, .pointer (some ⟨bb1, 1, none⟩))] hF (by kernel_rfl) fun a hF => ?_
           refine wl (eL 8 1 1 (v := .int .i64 i2) hF hM (by kernel_rfl) rfl rfl (by kernel_rfl) (by kernel_rfl) fun a w hF hM => ?_)
           refine wl (eM 9 (v := .bool true) hF hM (by kernel_rfl) (yld_call (f := 27) (args := #[.int .i64 i2, .int .i64 0, .int .i64 1099511627776]) hF (by kernel_rfl) (fun _ => by kernel_rfl) (fun w hM => rin_yes i2 0 1099511627776 w hz3 hz4)) fun a w hF hM => ?_)
           refine sB 3 [(10, .bool true), (11, .bool true), (12, .pointer (some ⟨bb1, 4, none⟩))] hF (by kernel_rfl) fun a hF => ?_
           refine wl (eL 13 1 4 (v := .int .i64 i5) hF hM (by kernel_rfl) rfl rfl (by kernel_rfl) (by kernel_rfl) fun a w hF hM => ?_)
           refine wl (eM 14 (v := .bool true) hF hM (by kernel_rfl) (yld_call (f := 27) (args := #[.int .i64 i5, .int .i64 0, .int .i64 1099511627776]) hF (by kernel_rfl) (fun _ => by kernel_rfl) (fun w hM => rin_yes i5 0 1099511627776 w hz5 hz6)) fun a w hF hM => ?_)
           refine sB 3 [(15, .bool true), (16, .bool true), (17, .pointer (some ⟨bb1, 2, none⟩))] hF (by kernel_rfl) fun a hF => ?_
           refine wl (eL 18 1 2 (v := .int .i64 i3) hF hM (by kernel_rfl) rfl rfl (by kernel_rfl) (by kernel_rfl) fun a w hF hM => ?_)
           refine wl (eM 19 (v := .bool true) hF hM (by kernel_rfl) (yld_call (f := 27) (args := #[.int .i64 i3, .int .i64 0, .int .i64 7]) hF (by kernel_rfl) (fun _ => by kernel_rfl) (fun w hM => rin_yes i3 0 7 w hz7 hz8)) fun a w hF hM => ?_)
           refine sB 3 [(20, .bool true), (21, .bool true), (22, .pointer (some ⟨bb1, 3, none⟩))] hF (by kernel_rfl) fun a hF => ?_
           refine wl (eL 23 1 3 (v := .int .i64 i4) hF hM (by kernel_rfl) rfl rfl (by kernel_rfl) (by kernel_rfl) fun a w hF hM => ?_)
           refine wl (eM 24 (v := .bool false) hF hM (by kernel_rfl) (yld_call (f := 27) (args := #[.int .i64 i4, .int .i64 84, .int .i64 1542]) hF (by kernel_rfl) (fun _ => by kernel_rfl) (fun w hM => rin_no i4 84 1542 w (.inr hz10))) fun a w hF hM => ?_)
           refine sB 2 [(25, .bool false), (2, .bool false)] hF (by kernel_rfl) fun a hF => ?_
           refine wpList_nil ?_
           refine hK2 _ _ ?_
           refine wp_ret ?_
           refine hR0 _ _ ?_
           refine ret_of hF hM (.tmp rfl (.nil)) ?_
           exact ⟨ret_bool (decide_eq_false (by unfold viP; omega)).symm, hM.bel⟩
         ·skip
          refine wp_region_lit ?_
          refine sB 1 [(3, .pointer (some ⟨bb1, 0, none⟩))] hF (by kernel_rfl) fun a hF => ?_
          refine wl (eL 4 1 0 (v := .int .i64 i1) hF hM (by kernel_rfl) rfl rfl (by kernel_rfl) (by kernel_rfl) fun a w hF hM => ?_)
          refine wl (eM 5 (v := .bool true) hF hM (by kernel_rfl) (yld_call (f := 27) (args := #[.int .i64 i1, .int .i64 0, .int .i64 1099511627776]) hF (by kernel_rfl) (fun _ => by kernel_rfl) (fun w hM => rin_yes i1 0 1099511627776 w hz1 hz2)) fun a w hF hM => ?_)
          refine sB 2 [(6, .bool true), (7, .pointer (some ⟨bb1, 1, none⟩))] hF (by kernel_rfl) fun a hF => ?_
          refine wl (eL 8 1 1 (v := .int .i64 i2) hF hM (by kernel_rfl) rfl rfl (by kernel_rfl) (by kernel_rfl) fun a w hF hM => ?_)
          refine wl (eM 9 (v := .bool true) hF hM (by kernel_rfl) (yld_call (f := 27) (args := #[.int .i64 i2, .int .i64 0, .int .i64 1099511627776]) hF (by kernel_rfl) (fun _ => by kernel_rfl) (fun w hM => rin_yes i2 0 1099511627776 w hz3 hz4)) fun a w hF hM => ?_)
          refine sB 3 [(10, .bool true), (11, .bool true), (12, .pointer (some ⟨bb1, 4, none⟩))] hF (by kernel_rfl) fun a hF => ?_
          refine wl (eL 13 1 4 (v := .int .i64 i5) hF hM (by kernel_rfl) rfl rfl (by kernel_rfl) (by kernel_rfl) fun a w hF hM => ?_)
          refine wl (eM 14 (v := .bool true) hF hM (by kernel_rfl) (yld_call (f := 27) (args := #[.int .i64 i5, .int .i64 0, .int .i64 1099511627776]) hF (by kernel_rfl) (fun _ => by kernel_rfl) (fun w hM => rin_yes i5 0 1099511627776 w hz5 hz6)) fun a w hF hM => ?_)
          refine sB 3 [(15, .bool true), (16, .bool true), (17, .pointer (some ⟨bb1, 2, none⟩))] hF (by kernel_rfl) fun a hF => ?_
          refine wl (eL 18 1 2 (v := .int .i64 i3) hF hM (by kernel_rfl) rfl rfl (by kernel_rfl) (by kernel_rfl) fun a w hF hM => ?_)
          refine wl (eM 19 (v := .bool true) hF hM (by kernel_rfl) (yld_call (f := 27) (args := #[.int .i64 i3, .int .i64 0, .int .i64 7]) hF (by kernel_rfl) (fun _ => by kernel_rfl) (fun w hM => rin_yes i3 0 7 w hz7 hz8)) fun a w hF hM => ?_)
          refine sB 3 [(20, .bool true), (21, .bool true), (22, .pointer (some ⟨bb1, 3, none⟩))] hF (by kernel_rfl) fun a hF => ?_
          refine wl (eL 23 1 3 (v := .int .i64 i4) hF hM (by kernel_rfl) rfl rfl (by kernel_rfl) (by kernel_rfl) fun a w hF hM => ?_)
          refine wl (eM 24 (v := .bool false) hF hM (by kernel_rfl) (yld_call (f := 27) (args := #[.int .i64 i4, .int .i64 84, .int .i64 1542]) hF (by kernel_rfl) (fun _ => by kernel_rfl) (fun w hM => rin_no i4 84 1542 w (.inl hz9))) fun a w hF hM => ?_)
          refine sB 2 [(25, .bool false), (2, .bool false)] hF (by kernel_rfl) fun a hF => ?_
          refine wpList_nil ?_
          refine hK2 _ _ ?_
          refine wp_ret ?_
          refine hR0 _ _ ?_
          refine ret_of hF hM (.tmp rfl (.nil)) ?_
          exact ⟨ret_bool (decide_eq_false (by unfold viP; omega)).symm, hM.bel⟩
        ·skip
         refine wp_region_lit ?_
         refine sB 1 [(3, .pointer (some ⟨bb1, 0, none⟩))] hF (by kernel_rfl) fun a hF => ?_
         refine wl (eL 4 1 0 (v := .int .i64 i1) hF hM (by kernel_rfl) rfl rfl (by kernel_rfl) (by kernel_rfl) fun a w hF hM => ?_)
         refine wl (eM 5 (v := .bool true) hF hM (by kernel_rfl) (yld_call (f := 27) (args := #[.int .i64 i1, .int .i64 0, .int .i64 1099511627776]) hF (by kernel_rfl) (fun _ => by kernel_rfl) (fun w hM => rin_yes i1 0 1099511627776 w hz1 hz2)) fun a w hF hM => ?_)
         refine sB 2 [(6, .bool true), (7, .pointer (some ⟨bb1, 1, none⟩))] hF (by kernel_rfl) fun a hF => ?_
         refine wl (eL 8 1 1 (v := .int .i64 i2) hF hM (by kernel_rfl) rfl rfl (by kernel_rfl) (by kernel_rfl) fun a w hF hM => ?_)
         refine wl (eM 9 (v := .bool true) hF hM (by kernel_rfl) (yld_call (f := 27) (args := #[.int .i64 i2, .int .i64 0, .int .i64 1099511627776]) hF (by kernel_rfl) (fun _ => by kernel_rfl) (fun w hM => rin_yes i2 0 1099511627776 w hz3 hz4)) fun a w hF hM => ?_)
         refine sB 3 [(10, .bool true), (11, .bool true), (12, .pointer (some ⟨bb1, 4, none⟩))] hF (by kernel_rfl) fun a hF => ?_
         refine wl (eL 13 1 4 (v := .int .i64 i5) hF hM (by kernel_rfl) rfl rfl (by kernel_rfl) (by kernel_rfl) fun a w hF hM => ?_)
         refine wl (eM 14 (v := .bool true) hF hM (by kernel_rfl) (yld_call (f := 27) (args := #[.int .i64 i5, .int .i64 0, .int .i64 1099511627776]) hF (by kernel_rfl) (fun _ => by kernel_rfl) (fun w hM => rin_yes i5 0 1099511627776 w hz5 hz6)) fun a w hF hM => ?_)
         refine sB 3 [(15, .bool true), (16, .bool true), (17, .pointer (some ⟨bb1, 2, none⟩))] hF (by kernel_rfl) fun a hF => ?_
         refine wl (eL 18 1 2 (v := .int .i64 i3) hF hM (by kernel_rfl) rfl rfl (by kernel_rfl) (by kernel_rfl) fun a w hF hM => ?_)
         refine wl (eM 19 (v := .bool false) hF hM (by kernel_rfl) (yld_call (f := 27) (args := #[.int .i64 i3, .int .i64 0, .int .i64 7]) hF (by kernel_rfl) (fun _ => by kernel_rfl) (fun w hM => rin_no i3 0 7 w (.inr hz8))) fun a w hF hM => ?_)
         refine sB 7 [(20, .bool false), (21, .bool false), (22, undef), (23, undef), (24, undef), (25, .bool false), (2, .bool false)] hF (by kernel_rfl) fun a hF => ?_
         refine wpList_nil ?_
         refine hK2 _ _ ?_
         refine wp_ret ?_
         refine hR0 _ _ ?_
         refine ret_of hF hM (.tmp rfl (.nil)) ?_
         exact ⟨ret_bool (decide_eq_false (by unfold viP; omega)).symm, hM.bel⟩
       ·skip
        refine wp_region_lit ?_
        refine sB 1 [(3, .pointer (some ⟨bb1, 0, none⟩))] hF (by kernel_rfl) fun a hF => ?_
        refine wl (eL 4 1 0 (v := .int .i64 i1) hF hM (by kernel_rfl) rfl rfl (by kernel_rfl) (by kernel_rfl) fun a w hF hM => ?_)
        refine wl (eM 5 (v := .bool true) hF hM (by kernel_rfl) (yld_call (f := 27) (args := #[.int .i64 i1, .int .i64 0, .int .i64 1099511627776]) hF (by kernel_rfl) (fun _ => by kernel_rfl) (fun w hM => rin_yes i1 0 1099511627776 w hz1 hz2)) fun a w hF hM => ?_)
        refine sB 2 [(6, .bool true), (7, .pointer (some ⟨bb1, 1, none⟩))] hF (by kernel_rfl) fun a hF => ?_
        refine wl (eL 8 1 1 (v := .int .i64 i2) hF hM (by kernel_rfl) rfl rfl (by kernel_rfl) (by kernel_rfl) fun a w hF hM => ?_)
        refine wl (eM 9 (v := .bool true) hF hM (by kernel_rfl) (yld_call (f := 27) (args := #[.int .i64 i2, .int .i64 0, .int .i64 1099511627776]) hF (by kernel_rfl) (fun _ => by kernel_rfl) (fun w hM => rin_yes i2 0 1099511627776 w hz3 hz4)) fun a w hF hM => ?_)
        refine sB 3 [(10, .bool true), (11, .bool true), (12, .pointer (some ⟨bb1, 4, none⟩))] hF (by kernel_rfl) fun a hF => ?_
        refine wl (eL 13 1 4 (v := .int .i64 i5) hF hM (by kernel_rfl) rfl rfl (by kernel_rfl) (by kernel_rfl) fun a w hF hM => ?_)
        refine wl (eM 14 (v := .bool true) hF hM (by kernel_rfl) (yld_call (f := 27) (args := #[.int .i64 i5, .int .i64 0, .int .i64 1099511627776]) hF (by kernel_rfl) (fun _ => by kernel_rfl) (fun w hM => rin_yes i5 0 1099511627776 w hz5 hz6)) fun a w hF hM => ?_)
        refine sB 3 [(15, .bool true), (16, .bool true), (17, .pointer (some ⟨bb1, 2, none⟩))] hF (by kernel_rfl) fun a hF => ?_
        refine wl (eL 18 1 2 (v := .int .i64 i3) hF hM (by kernel_rfl) rfl rfl (by kernel_rfl) (by kernel_rfl) fun a w hF hM => ?_)
        refine wl (eM 19 (v := .bool false) hF hM (by kernel_rfl) (yld_call (f := 27) (args := #[.int .i64 i3, .int .i64 0, .int .i64 7]) hF (by kernel_rfl) (fun _ => by kernel_rfl) (fun w hM => rin_no i3 0 7 w (.inl hz7))) fun a w hF hM => ?_)
        refine sB 7 [(20, .bool false), (21, .bool false), (22, undef), (23, undef), (24, undef), (25, .bool false), (2, .bool false)] hF (by kernel_rfl) fun a hF => ?_
        refine wpList_nil ?_
        refine hK2 _ _ ?_
        refine wp_ret ?_
        refine hR0 _ _ ?_
        refine ret_of hF hM (.tmp rfl (.nil)) ?_
        exact ⟨ret_bool (decide_eq_false (by unfold viP; omega)).symm, hM.bel⟩
      ·skip
       refine wp_region_lit ?_
       refine sB 1 [(3, .pointer (some ⟨bb1, 0, none⟩))] hF (by kernel_rfl) fun a hF => ?_
       refine wl (eL 4 1 0 (v := .int .i64 i1) hF hM (by kernel_rfl) rfl rfl (by kernel_rfl) (by kernel_rfl) fun a w hF hM => ?_)
       refine wl (eM 5 (v := .bool true) hF hM (by kernel_rfl) (yld_call (f := 27) (args := #[.int .i64 i1, .int .i64 0, .int .i64 1099511627776]) hF (by kernel_rfl) (fun _ => by kernel_rfl) (fun w hM => rin_yes i1 0 1099511627776 w hz1 hz2)) fun a w hF hM => ?_)
       refine sB 2 [(6, .bool true), (7, .pointer (some ⟨bb1, 1, none⟩))] hF (by kernel_rfl) fun a hF => ?_
       refine wl (eL 8 1 1 (v := .int .i64 i2) hF hM (by kernel_rfl) rfl rfl (by kernel_rfl) (by kernel_rfl) fun a w hF hM => ?_)
       refine wl (eM 9 (v := .bool true) hF hM (by kernel_rfl) (yld_call (f := 27) (args := #[.int .i64 i2, .int .i64 0, .int .i64 1099511627776]) hF (by kernel_rfl) (fun _ => by kernel_rfl) (fun w hM => rin_yes i2 0 1099511627776 w hz3 hz4)) fun a w hF hM => ?_)
       refine sB 3 [(10, .bool true), (11, .bool true), (12, .pointer (some ⟨bb1, 4, none⟩))] hF (by kernel_rfl) fun a hF => ?_
       refine wl (eL 13 1 4 (v := .int .i64 i5) hF hM (by kernel_rfl) rfl rfl (by kernel_rfl) (by kernel_rfl) fun a w hF hM => ?_)
       refine wl (eM 14 (v := .bool false) hF hM (by kernel_rfl) (yld_call (f := 27) (args := #[.int .i64 i5, .int .i64 0, .int .i64 1099511627776]) hF (by kernel_rfl) (fun _ => by kernel_rfl) (fun w hM => rin_no i5 0 1099511627776 w (.inr hz6))) fun a w hF hM => ?_)
       refine sB 12 [(15, .bool false), (16, .bool false), (17, undef), (18, undef), (19, undef), (20, .bool false), (21, .bool false), (22, undef), (23, undef), (24, undef), (25, .bool false), (2, .bool false)] hF (by kernel_rfl) fun a hF => ?_
       refine wpList_nil ?_
       refine hK2 _ _ ?_
       refine wp_ret ?_
       refine hR0 _ _ ?_
       refine ret_of hF hM (.tmp rfl (.nil)) ?_
       exact ⟨ret_bool (decide_eq_false (by unfold viP; omega)).symm, hM.bel⟩
     ·skip
      refine wp_region_lit ?_
      refine sB 1 [(3, .pointer (some ⟨bb1, 0, none⟩))] hF (by kernel_rfl) fun a hF => ?_
      refine wl (eL 4 1 0 (v := .int .i64 i1) hF hM (by kernel_rfl) rfl rfl (by kernel_rfl) (by kernel_rfl) fun a w hF hM => ?_)
      refine wl (eM 5 (v := .bool true) hF hM (by kernel_rfl) (yld_call (f := 27) (args := #[.int .i64 i1, .int .i64 0, .int .i64 1099511627776]) hF (by kernel_rfl) (fun _ => by kernel_rfl) (fun w hM => rin_yes i1 0 1099511627776 w hz1 hz2)) fun a w hF hM => ?_)
      refine sB 2 [(6, .bool true), (7, .pointer (some ⟨bb1, 1, none⟩))] hF (by kernel_rfl) fun a hF => ?_
      refine wl (eL 8 1 1 (v := .int .i64 i2) hF hM (by kernel_rfl) rfl rfl (by kernel_rfl) (by kernel_rfl) fun a w hF hM => ?_)
      refine wl (eM 9 (v := .bool true) hF hM (by kernel_rfl) (yld_call (f := 27) (args := #[.int .i64 i2, .int .i64 0, .int .i64 1099511627776]) hF (by kernel_rfl) (fun _ => by kernel_rfl) (fun w hM => rin_yes i2 0 1099511627776 w hz3 hz4)) fun a w hF hM => ?_)
      refine sB 3 [(10, .bool true), (11, .bool true), (12, .pointer (some ⟨bb1, 4, none⟩))] hF (by kernel_rfl) fun a hF => ?_
      refine wl (eL 13 1 4 (v := .int .i64 i5) hF hM (by kernel_rfl) rfl rfl (by kernel_rfl) (by kernel_rfl) fun a w hF hM => ?_)
      refine wl (eM 14 (v := .bool false) hF hM (by kernel_rfl) (yld_call (f := 27) (args := #[.int .i64 i5, .int .i64 0, .int .i64 1099511627776]) hF (by kernel_rfl) (fun _ => by kernel_rfl) (fun w hM => rin_no i5 0 1099511627776 w (.inl hz5))) fun a w hF hM => ?_)
      refine sB 12 [(15, .bool false), (16, .bool false), (17, undef), (18, undef), (19, undef), (20, .bool false), (21, .bool false), (22, undef), (23, undef), (24, undef), (25, .bool false), (2, .bool false)] hF (by kernel_rfl) fun a hF => ?_
      refine wpList_nil ?_
      refine hK2 _ _ ?_
      refine wp_ret ?_
      refine hR0 _ _ ?_
      refine ret_of hF hM (.tmp rfl (.nil)) ?_
      exact ⟨ret_bool (decide_eq_false (by unfold viP; omega)).symm, hM.bel⟩
    ·skip
     refine wp_region_lit ?_
     refine sB 1 [(3, .pointer (some ⟨bb1, 0, none⟩))] hF (by kernel_rfl) fun a hF => ?_
     refine wl (eL 4 1 0 (v := .int .i64 i1) hF hM (by kernel_rfl) rfl rfl (by kernel_rfl) (by kernel_rfl) fun a w hF hM => ?_)
     refine wl (eM 5 (v := .bool true) hF hM (by kernel_rfl) (yld_call (f := 27) (args := #[.int .i64 i1, .int .i64 0, .int .i64 1099511627776]) hF (by kernel_rfl) (fun _ => by kernel_rfl) (fun w hM => rin_yes i1 0 1099511627776 w hz1 hz2)) fun a w hF hM => ?_)
     refine sB 2 [(6, .bool true), (7, .pointer (some ⟨bb1, 1, none⟩))] hF (by kernel_rfl) fun a hF => ?_
     refine wl (eL 8 1 1 (v := .int .i64 i2) hF hM (by kernel_rfl) rfl rfl (by kernel_rfl) (by kernel_rfl) fun a w hF hM => ?_)
     refine wl (eM 9 (v := .bool false) hF hM (by kernel_rfl) (yld_call (f := 27) (args := #[.int .i64 i2, .int .i64 0, .int .i64 1099511627776]) hF (by kernel_rfl) (fun _ => by kernel_rfl) (fun w hM => rin_no i2 0 1099511627776 w (.inr hz4))) fun a w hF hM => ?_)
     refine sB 17 [(10, .bool false), (11, .bool false), (12, undef), (13, undef), (14, undef), (15, .bool false), (16, .bool false), (17, undef), (18, undef), (19, undef), (20, .bool false), (21, .bool false), (22, undef), (23, undef), (24, undef), (25, .bool false), (2, .bool false)] hF (by kernel_rfl) fun a hF => ?_
     refine wpList_nil ?_
     refine hK2 _ _ ?_
     refine wp_ret ?_
     refine hR0 _ _ ?_
     refine ret_of hF hM (.tmp rfl (.nil)) ?_
     exact ⟨ret_bool (decide_eq_false (by unfold viP; omega)).symm, hM.bel⟩
   ·skip
    refine wp_region_lit ?_
    refine sB 1 [(3, .pointer (some ⟨bb1, 0, none⟩))] hF (by kernel_rfl) fun a hF => ?_
    refine wl (eL 4 1 0 (v := .int .i64 i1) hF hM (by kernel_rfl) rfl rfl (by kernel_rfl) (by kernel_rfl) fun a w hF hM => ?_)
    refine wl (eM 5 (v := .bool true) hF hM (by kernel_rfl) (yld_call (f := 27) (args := #[.int .i64 i1, .int .i64 0, .int .i64 1099511627776]) hF (by kernel_rfl) (fun _ => by kernel_rfl) (fun w hM => rin_yes i1 0 1099511627776 w hz1 hz2)) fun a w hF hM => ?_)
    refine sB 2 [(6, .bool true), (7, .pointer (some ⟨bb1, 1, none⟩))] hF (by kernel_rfl) fun a hF => ?_
    refine wl (eL 8 1 1 (v := .int .i64 i2) hF hM (by kernel_rfl) rfl rfl (by kernel_rfl) (by kernel_rfl) fun a w hF hM => ?_)
    refine wl (eM 9 (v := .bool false) hF hM (by kernel_rfl) (yld_call (f := 27) (args := #[.int .i64 i2, .int .i64 0, .int .i64 1099511627776]) hF (by kernel_rfl) (fun _ => by kernel_rfl) (fun w hM => rin_no i2 0 1099511627776 w (.inl hz3))) fun a w hF hM => ?_)
    refine sB 17 [(10, .bool false), (11, .bool false), (12, undef), (13, undef), (14, undef), (15, .bool false), (16, .bool false), (17, undef), (18, undef), (19, undef), (20, .bool false), (21, .bool false), (22, undef), (23, undef), (24, undef), (25, .bool false), (2, .bool false)] hF (by kernel_rfl) fun a hF => ?_
    refine wpList_nil ?_
    refine hK2 _ _ ?_
    refine wp_ret ?_
    refine hR0 _ _ ?_
    refine ret_of hF hM (.tmp rfl (.nil)) ?_
    exact ⟨ret_bool (decide_eq_false (by unfold viP; omega)).symm, hM.bel⟩
  ·skip
   refine wp_region_lit ?_
   refine sB 1 [(3, .pointer (some ⟨bb1, 0, none⟩))] hF (by kernel_rfl) fun a hF => ?_
   refine wl (eL 4 1 0 (v := .int .i64 i1) hF hM (by kernel_rfl) rfl rfl (by kernel_rfl) (by kernel_rfl) fun a w hF hM => ?_)
   refine wl (eM 5 (v := .bool false) hF hM (by kernel_rfl) (yld_call (f := 27) (args := #[.int .i64 i1, .int .i64 0, .int .i64 1099511627776]) hF (by kernel_rfl) (fun _ => by kernel_rfl) (fun w hM => rin_no i1 0 1099511627776 w (.inr hz2))) fun a w hF hM => ?_)
   refine sB 21 [(6, .bool false), (7, undef), (8, undef), (9, undef), (10, .bool false), (11, .bool false), (12, undef), (13, undef), (14, undef), (15, .bool false), (16, .bool false), (17, undef), (18, undef), (19, undef), (20, .bool false), (21, .bool false), (22, undef), (23, undef), (24, undef), (25, .bool false), (2, .bool false)] hF (by kernel_rfl) fun a hF => ?_
   refine wpList_nil ?_
   refine hK2 _ _ ?_
   refine wp_ret ?_
   refine hR0 _ _ ?_
   refine ret_of hF hM (.tmp rfl (.nil)) ?_
   exact ⟨ret_bool (decide_eq_false (by unfold viP; omega)).symm, hM.bel⟩
 ·skip
  refine wp_region_lit ?_
  refine sB 1 [(3, .pointer (some ⟨bb1, 0, none⟩))] hF (by kernel_rfl) fun a hF => ?_
  refine wl (eL 4 1 0 (v := .int .i64 i1) hF hM (by kernel_rfl) rfl rfl (by kernel_rfl) (by kernel_rfl) fun a w hF hM => ?_)
  refine wl (eM 5 (v := .bool false) hF hM (by kernel_rfl) (yld_call (f := 27) (args := #[.int .i64 i1, .int .i64 0, .int .i64 1099511627776]) hF (by kernel_rfl) (fun _ => by kernel_rfl) (fun w hM => rin_no i1 0 1099511627776 w (.inl hz1))) fun a w hF hM => ?_)
  refine sB 21 [(6, .bool false), (7, undef), (8, undef), (9, undef), (10, .bool false), (11, .bool false), (12, undef), (13, undef), (14, undef), (15, .bool false), (16, .bool false), (17, undef), (18, undef), (19, undef), (20, .bool false), (21, .bool false), (22, undef), (23, undef), (24, undef), (25, .bool false), (2, .bool false)] hF (by kernel_rfl) fun a hF => ?_
  refine wpList_nil ?_
  refine hK2 _ _ ?_
  refine wp_ret ?_
  refine hR0 _ _ ?_
  refine ret_of hF hM (.tmp rfl (.nil)) ?_
  exact ⟨ret_bool (decide_eq_false (by unfold viP; omega)).symm, hM.bel⟩

set_option maxRecDepth 100000 in
theorem rFind33_w (A : Option Addr) (la : List (List Int)) (ca : Nat) (A2 : Option Addr) (lq : List (List Int)) (cq_ : Nat) (now : Int) (A3 : Option Addr) (ls : List Int) (cs : Nat) (A4 : Option Addr) (lm : List (List Int)) (cm : Nat) (port i1 i2 i3 i4 i5 : Int) (w0 : World) (hA : Ro w0 A (flatR la)) (hW : WR 7 la) (hA2 : Ro w0 A2 (flatR lq)) (hW2 : WR 5 lq) (hA3 : Ro w0 A3 (ls.map (Value.int .i64))) (hA4 : Ro w0 A4 (flatR lm)) (hW4 : WR 3 lm) (hl : la.length ≤ 64) :
    Calls Try.prog 19 #[.agg #[.slice A la.length ca, .slice A2 lq.length cq_, .int .i64 now, .slice A3 ls.length cs, .slice A4 lm.length cm], .int .i64 port, .agg #[.int .i64 i1, .int .i64 i2, .int .i64 i3, .int .i64 i4, .int .i64 i5]] w0 (Ret w0 (.int .i64 (regI port i1 i3 la))) := by
 refine enterK 40 Try.func19 rfl rfl rfl ?_
 intro a hF Q0 hR0 hN0
 have hM := Mem.start w0
 replace hM := hM.addOld 1 hA (Nat.le_refl _)
 replace hM := hM.addOld 2 hA2 (Nat.le_refl _)
 replace hM := hM.addOld 3 hA3 (Nat.le_refl _)
 replace hM := hM.addOld 4 hA4 (Nat.le_refl _)
 refine wp_seq_k fun K1 hK1 => ?_
 refine wp_region_lit ?_
 refine wl (eN 3 5 (t := 27) (fun b => .pointer (some ⟨b, 0, none⟩)) #[.slice A la.length ca, .slice A2 lq.length cq_, .int .i64 now, .slice A3 ls.length cs, .slice A4 lm.length cm] hF hM (by kernel_rfl) (fun _ => by kernel_rfl) fun bb1 a w hF hM => ?_)
 refine wl (eN 5 6 (t := 39) (fun b => .pointer (some ⟨b, 0, none⟩)) #[.int .i64 i1, .int .i64 i2, .int .i64 i3, .int .i64 i4, .int .i64 i5] hF hM (by kernel_rfl) (fun _ => by kernel_rfl) fun bb2 a w hF hM => ?_)
 refine sB 1 [(6, .int .i64 0)] hF (by kernel_rfl) fun a hF => ?_
 refine wpList_nil ?_
 refine hK1 _ _ ?_
 refine wp_seq_k fun K2 hK2 => ?_
 refine wp_seq_k fun K3 hK3 => ?_
 refine wp_region_lit ?_
 refine sB 1 [(7, .int .i64 0)] hF (by kernel_rfl) fun a hF => ?_
 refine wpList_nil ?_
 refine hK3 _ _ ?_
 refine wp_block ?_
 refine wp_loop_k (G := Nat) (fun gg a w => Fr 40 [(7, some (.int .i64 (gg : Int))), (1, some (.int .i64 port)), (3, some (.pointer (some ⟨bb1, 0, none⟩))), (5, some (.pointer (some ⟨bb2, 0, none⟩)))] a ∧ Mem w0.heap.size w0 [(1, some (.ro A (flatR la))), (2, some (.ro A2 (flatR lq))), (3, some (.ro A3 (ls.map (Value.int .i64)))), (4, some (.ro A4 (flatR lm))), (5, some (.row bb1 27 #[.slice A la.length ca, .slice A2 lq.length cq_, .int .i64 now, .slice A3 ls.length cs, .slice A4 lm.length cm])), (6, some (.row bb2 39 #[.int .i64 i1, .int .i64 i2, .int .i64 i3, .int .i64 i4, .int .i64 i5]))] w ∧ ((gg : Int) ≤ (la.length : Int)) ∧ (∀ j, j < gg → regA port i1 i3 la j = false)) (fun gg => la.length - gg) (0) ?_ ?_
 ·refine ⟨(((((Fr.nil hF).c hF (i := 5) rfl rfl).c hF (i := 3) rfl rfl).c hF (i := 1) rfl rfl).c hF (i := 7) rfl (vi (show (0 : Int) = (0 : Int) from by omega))), (hM.sub ((((((Sub.nil.c (k := 6) rfl rfl).c (k := 5) rfl rfl).c (k := 4) rfl rfl).c (k := 3) rfl rfl).c (k := 2) rfl rfl).c (k := 1) rfl rfl)), (show (0 : Int) ≤ (la.length : Int) from by omega), (show ∀ j, j < 0 → regA port i1 i3 la j = false from by exact fun j hj => by omega)⟩
 ·intro gg a w hI
  intro K4 hK4
  obtain ⟨k, rfl⟩ : ∃ x, x = gg := ⟨_, rfl⟩
  try dsimp only at hI hK4
  obtain ⟨hF, hM, hz1, hz2⟩ := hI
  refine wp_seq_k fun K5 hK5 => ?_
  refine wp_seq_k fun K6 hK6 => ?_
  refine wp_region_lit ?_
  refine sB 2 [(9, .int .i64 (k : Int)), (10, .pointer (some ⟨bb1, 0, none⟩))] hF (by kernel_rfl) fun a hF => ?_
  refine wl (eL 11 5 0 (v := .slice A la.length ca) hF hM (by kernel_rfl) rfl rfl (by kernel_rfl) (by kernel_rfl) fun a w hF hM => ?_)
  refine sB 2 [(12, .int .i64 (la.length : Int)), (13, .bool (decide ((k : Int) < (la.length : Int))))] hF (by kernel_rfl) fun a hF => ?_
  refine wpList_nil ?_
  refine hK6 _ _ ?_
  by_cases hz3 : (k : Int) < (la.length : Int)
  ·skip
   replace hF := hF.c hF (i := 13) (v := .bool true) rfl (bT hz3)
   refine cT hF (by kernel_rfl) (by kernel_rfl) ?_
   refine wp_skip ?_
   refine hK5 _ _ ?_
   refine wp_seq_k fun K7 hK7 => ?_
   refine wp_block ?_
   refine wp_seq_k fun K8 hK8 => ?_
   refine wp_region_lit ?_
   refine sB 1 [(16, .pointer (some ⟨bb1, 0, none⟩))] hF (by kernel_rfl) fun a hF => ?_
   refine wl (eL 17 5 0 (v := .slice A la.length ca) hF hM (by kernel_rfl) rfl rfl (by kernel_rfl) (by kernel_rfl) fun a w hF hM => ?_)
   refine sB 1 [(18, .int .i64 (k : Int))] hF (by kernel_rfl) fun a hF => ?_
   refine wl (eM 19 (v := .pointer (some (ea A (k * 7)))) hF hM (by kernel_rfl) (yld_ix (kd := .i64) (e := 57) (len := la.length) (cap := ca) (i := (k : Int)) (size := 7) (A := A) hF rfl (by kernel_rfl) (by kernel_rfl) (by kernel_rfl) (by kernel_rfl) (by kernel_rfl) (roK 1 rfl) (by omega) (by omega) (by rw [flatR_length hW]; (try simp only [List.length_map, List.length_append, List.length_replicate, List.length_set, List.length_cons, List.length_nil, flat2_length, List.length_take]); omega)) fun a w hF hM => ?_)
   refine wl (eM 20 (v := .agg #[.int .i64 (rc la k 0), .int .i64 (rc la k 1), .int .i64 (rc la k 2), .int .i64 (rc la k 3), .int .i64 (rc la k 4), .int .i64 (rc la k 5), .int .i64 (rc la k 6)]) hF hM (by kernel_rfl) (yld_roM (A := A) (j := k * 7) (us := [.int .i64 (rc la k 0), .int .i64 (rc la k 1), .int .i64 (rc la k 2), .int .i64 (rc la k 3), .int .i64 (rc la k 4), .int .i64 (rc la k 5), .int .i64 (rc la k 6)]) hF rfl (by kernel_rfl) (by kernel_rfl) (roK 1 rfl) (by kernel_rfl) rfl (rc_sub (k := k) (f := 0) (m := 7) hW (by omega) (by decide) rfl)) fun a w hF hM => ?_)
   refine wl (eN 8 7 (t := 57) (fun b => .pointer (some ⟨b, 0, none⟩)) #[.int .i64 0, .int .i64 0, .int .i64 0, .int .i64 0, .int .i64 0, .int .i64 0, .int .i64 0] hF hM (by kernel_rfl) (fun _ => by kernel_rfl) fun bb3 a w hF hM => ?_)
   refine wl (sStore (i := 7) (off := 0) (cs' := #[.int .i64 (rc la k 0), .int .i64 (rc la k 1), .int .i64 (rc la k 2), .int .i64 (rc la k 3), .int .i64 (rc la k 4), .int .i64 (rc la k 5), .int .i64 (rc la k 6)]) hF hM (by kernel_rfl) rfl rfl (by kernel_rfl) (by kernel_rfl) rfl (by kernel_rfl) fun w hM => ?_)
   refine wpList_nil ?_
   refine hK8 _ _ ?_
   refine wp_seq_k fun K9 hK9 => ?_
   by_cases hz4 : rc la k 0 = port
   ·skip
    by_cases hz5 : rc la k 1 = i1
    ·skip
     refine wp_region_lit ?_
     refine sB 1 [(21, .pointer (some ⟨bb3, 0, none⟩))] hF (by kernel_rfl) fun a hF => ?_
     refine wl (eL 22 7 0 (v := .int .i64 (rc la k 0)) hF hM (by kernel_rfl) rfl rfl (by kernel_rfl) (by kernel_rfl) fun a w hF hM => ?_)
     refine sB 1 [(23, .int .i64 port)] hF (by kernel_rfl) fun a hF => ?_
     refine wl (eP 24 (v0 := .bool (decide (rc la k 0 = port))) (v := .bool true) hF (by kernel_rfl) (fun _ => by kernel_rfl) (bT hz4) fun a hF => ?_)
     refine sB 2 [(25, .bool true), (26, .pointer (some ⟨bb3, 1, none⟩))] hF (by kernel_rfl) fun a hF => ?_
     refine wl (eL 27 7 1 (v := .int .i64 (rc la k 1)) hF hM (by kernel_rfl) rfl rfl (by kernel_rfl) (by kernel_rfl) fun a w hF hM => ?_)
     refine sB 1 [(28, .pointer (some ⟨bb2, 0, none⟩))] hF (by kernel_rfl) fun a hF => ?_
     refine wl (eL 29 6 0 (v := .int .i64 i1) hF hM (by kernel_rfl) rfl rfl (by kernel_rfl) (by kernel_rfl) fun a w hF hM => ?_)
     refine wl (eP 30 (v0 := .bool (decide (rc la k 1 = i1))) (v := .bool true) hF (by kernel_rfl) (fun _ => by kernel_rfl) (bT hz5) fun a hF => ?_)
     refine sB 3 [(31, .bool true), (32, .bool true), (33, .pointer (some ⟨bb3, 2, none⟩))] hF (by kernel_rfl) fun a hF => ?_
     refine wl (eL 34 7 2 (v := .int .i64 (rc la k 2)) hF hM (by kernel_rfl) rfl rfl (by kernel_rfl) (by kernel_rfl) fun a w hF hM => ?_)
     refine sB 1 [(35, .pointer (some ⟨bb2, 2, none⟩))] hF (by kernel_rfl) fun a hF => ?_
     refine wl (eL 36 6 2 (v := .int .i64 i3) hF hM (by kernel_rfl) rfl rfl (by kernel_rfl) (by kernel_rfl) fun a w hF hM => ?_)
     refine sB 2 [(37, .bool (decide (rc la k 2 = i3))), (38, .bool (decide (rc la k 2 = i3)))] hF (by kernel_rfl) fun a hF => ?_
     refine wpList_nil ?_
     refine hK9 _ _ ?_
     by_cases hz6 : rc la k 2 = i3
     ·skip
      replace hF := hF.c hF (i := 37) (v := .bool true) rfl (bT hz6)
      replace hF := hF.c hF (i := 38) (v := .bool true) rfl (bT hz6)
      refine cT hF (by kernel_rfl) (by kernel_rfl) ?_
      refine wp_seq_k fun K10 hK10 => ?_
      refine wp_region_lit ?_
      refine sB 2 [(39, .int .i64 (k : Int)), (6, .int .i64 (k : Int))] hF (by kernel_rfl) fun a hF => ?_
      refine wpList_nil ?_
      refine hK10 _ _ ?_
      refine wp_ret ?_
      refine hR0 _ _ ?_
      refine ret_of hF hM (.tmp rfl (.nil)) ?_
      exact ⟨ret_int (fnd_some (k := k) (by omega) (decide_eq_true (by omega)) (by assumption)).symm, hM.bel⟩
     ·skip
      replace hF := hF.c hF (i := 37) (v := .bool false) rfl (bF hz6)
      replace hF := hF.c hF (i := 38) (v := .bool false) rfl (bF hz6)
      refine cF hF (by kernel_rfl) (by kernel_rfl) ?_
      refine wp_skip ?_
      refine hK7 _ _ ?_
      refine wp_region_lit ?_
      refine sB 1 [(14, .int .i64 (k : Int))] hF (by kernel_rfl) fun a hF => ?_
      refine wl (eP 15 (v0 := .int .i64 (IntKind.i64.wrap ((k : Int) + 1))) (v := .int .i64 ((k : Int) + 1)) hF (by kernel_rfl) (fun _ => by kernel_rfl) (wi (by omega)) fun a hF => ?_)
      refine sB 1 [(7, .int .i64 ((k : Int) + 1))] hF (by kernel_rfl) fun a hF => ?_
      refine wpList_nil ?_
      refine hK4 _ _ ⟨(k + 1), ⟨(((((Fr.nil hF).c hF (i := 5) rfl rfl).c hF (i := 3) rfl rfl).c hF (i := 1) rfl rfl).c hF (i := 7) rfl (vi (show ((k : Int) + 1 : Int) = ((k + 1) : Int) from by omega))), (hM.sub ((((((Sub.nil.c (k := 6) rfl rfl).c (k := 5) rfl rfl).c (k := 4) rfl rfl).c (k := 3) rfl rfl).c (k := 2) rfl rfl).c (k := 1) rfl rfl)), (show ((k + 1) : Int) ≤ (la.length : Int) from by omega), (show ∀ j, j < (k + 1) → regA port i1 i3 la j = false from by exact no_next (by assumption) (decide_eq_false (by omega)))⟩, (show la.length - (k + 1) < la.length - k from by omega)⟩
    ·skip
     refine wp_region_lit ?_
     refine sB 1 [(21, .pointer (some ⟨bb3, 0, none⟩))] hF (by kernel_rfl) fun a hF => ?_
     refine wl (eL 22 7 0 (v := .int .i64 (rc la k 0)) hF hM (by kernel_rfl) rfl rfl (by kernel_rfl) (by kernel_rfl) fun a w hF hM => ?_)
     refine sB 1 [(23, .int .i64 port)] hF (by kernel_rfl) fun a hF => ?_
     refine wl (eP 24 (v0 := .bool (decide (rc la k 0 = port))) (v := .bool true) hF (by kernel_rfl) (fun _ => by kernel_rfl) (bT hz4) fun a hF => ?_)
     refine sB 2 [(25, .bool true), (26, .pointer (some ⟨bb3, 1, none⟩))] hF (by kernel_rfl) fun a hF => ?_
     refine wl (eL 27 7 1 (v := .int .i64 (rc la k 1)) hF hM (by kernel_rfl) rfl rfl (by kernel_rfl) (by kernel_rfl) fun a w hF hM => ?_)
     refine sB 1 [(28, .pointer (some ⟨bb2, 0, none⟩))] hF (by kernel_rfl) fun a hF => ?_
     refine wl (eL 29 6 0 (v := .int .i64 i1) hF hM (by kernel_rfl) rfl rfl (by kernel_rfl) (by kernel_rfl) fun a w hF hM => ?_)
     refine wl (eP 30 (v0 := .bool (decide (rc la k 1 = i1))) (v := .bool false) hF (by kernel_rfl) (fun _ => by kernel_rfl) (bF hz5) fun a hF => ?_)
     refine sB 8 [(31, .bool false), (32, .bool false), (33, undef), (34, undef), (35, undef), (36, undef), (37, undef), (38, .bool false)] hF (by kernel_rfl) fun a hF => ?_
     refine wpList_nil ?_
     refine hK9 _ _ ?_
     refine cF hF (by kernel_rfl) (by kernel_rfl) ?_
     refine wp_skip ?_
     refine hK7 _ _ ?_
     refine wp_region_lit ?_
     refine sB 1 [(14, .int .i64 (k : Int))] hF (by kernel_rfl) fun a hF => ?_
     refine wl (eP 15 (v0 := .int .i64 (IntKind.i64.wrap ((k : Int) + 1))) (v := .int .i64 ((k : Int) + 1)) hF (by kernel_rfl) (fun _ => by kernel_rfl) (wi (by omega)) fun a hF => ?_)
     refine sB 1 [(7, .int .i64 ((k : Int) + 1))] hF (by kernel_rfl) fun a hF => ?_
     refine wpList_nil ?_
     refine hK4 _ _ ⟨(k + 1), ⟨(((((Fr.nil hF).c hF (i := 5) rfl rfl).c hF (i := 3) rfl rfl).c hF (i := 1) rfl rfl).c hF (i := 7) rfl (vi (show ((k : Int) + 1 : Int) = ((k + 1) : Int) from by omega))), (hM.sub ((((((Sub.nil.c (k := 6) rfl rfl).c (k := 5) rfl rfl).c (k := 4) rfl rfl).c (k := 3) rfl rfl).c (k := 2) rfl rfl).c (k := 1) rfl rfl)), (show ((k + 1) : Int) ≤ (la.length : Int) from by omega), (show ∀ j, j < (k + 1) → regA port i1 i3 la j = false from by exact no_next (by assumption) (decide_eq_false (by omega)))⟩, (show la.length - (k + 1) < la.length - k from by omega)⟩
   ·skip
    refine wp_region_lit ?_
    refine sB 1 [(21, .pointer (some ⟨bb3, 0, none⟩))] hF (by kernel_rfl) fun a hF => ?_
    refine wl (eL 22 7 0 (v := .int .i64 (rc la k 0)) hF hM (by kernel_rfl) rfl rfl (by kernel_rfl) (by kernel_rfl) fun a w hF hM => ?_)
    refine sB 1 [(23, .int .i64 port)] hF (by kernel_rfl) fun a hF => ?_
    refine wl (eP 24 (v0 := .bool (decide (rc la k 0 = port))) (v := .bool false) hF (by kernel_rfl) (fun _ => by kernel_rfl) (bF hz4) fun a hF => ?_)
    refine sB 14 [(25, .bool false), (26, undef), (27, undef), (28, undef), (29, undef), (30, undef), (31, .bool false), (32, .bool false), (33, undef), (34, undef), (35, undef), (36, undef), (37, undef), (38, .bool false)] hF (by kernel_rfl) fun a hF => ?_
    refine wpList_nil ?_
    refine hK9 _ _ ?_
    refine cF hF (by kernel_rfl) (by kernel_rfl) ?_
    refine wp_skip ?_
    refine hK7 _ _ ?_
    refine wp_region_lit ?_
    refine sB 1 [(14, .int .i64 (k : Int))] hF (by kernel_rfl) fun a hF => ?_
    refine wl (eP 15 (v0 := .int .i64 (IntKind.i64.wrap ((k : Int) + 1))) (v := .int .i64 ((k : Int) + 1)) hF (by kernel_rfl) (fun _ => by kernel_rfl) (wi (by omega)) fun a hF => ?_)
    refine sB 1 [(7, .int .i64 ((k : Int) + 1))] hF (by kernel_rfl) fun a hF => ?_
    refine wpList_nil ?_
    refine hK4 _ _ ⟨(k + 1), ⟨(((((Fr.nil hF).c hF (i := 5) rfl rfl).c hF (i := 3) rfl rfl).c hF (i := 1) rfl rfl).c hF (i := 7) rfl (vi (show ((k : Int) + 1 : Int) = ((k + 1) : Int) from by omega))), (hM.sub ((((((Sub.nil.c (k := 6) rfl rfl).c (k := 5) rfl rfl).c (k := 4) rfl rfl).c (k := 3) rfl rfl).c (k := 2) rfl rfl).c (k := 1) rfl rfl)), (show ((k + 1) : Int) ≤ (la.length : Int) from by omega), (show ∀ j, j < (k + 1) → regA port i1 i3 la j = false from by exact no_next (by assumption) (decide_eq_false (by omega)))⟩, (show la.length - (k + 1) < la.length - k from by omega)⟩
  ·skip
   replace hF := hF.c hF (i := 13) (v := .bool false) rfl (bF hz3)
   refine cF hF (by kernel_rfl) (by kernel_rfl) ?_
   refine wp_exit ?_
   refine hK2 _ _ ?_
   refine wp_seq_k fun K11 hK11 => ?_
   refine wp_region_lit ?_
   refine sB 1 [(6, .int .i64 (-1))] hF (by kernel_rfl) fun a hF => ?_
   refine wpList_nil ?_
   refine hK11 _ _ ?_
   refine wp_ret ?_
   refine hR0 _ _ ?_
   refine ret_of hF hM (.tmp rfl (.nil)) ?_
   exact ⟨ret_int (fnd_none (fun j hj => ‹∀ j, j < k → regA port i1 i3 la j = false› j (by omega))).symm, hM.bel⟩

end Go.Proofs.Ytogeficooemngaa
