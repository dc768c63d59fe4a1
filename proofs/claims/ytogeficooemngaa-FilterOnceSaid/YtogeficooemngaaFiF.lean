/-
  Frames.
-/
import Derived.Test.YtogeficooemngaaFiE
namespace Go.Proofs.Ytogeficooemngaa
open Go.RowKit
set_option linter.unusedVariables false
set_option linter.unusedSimpArgs false

def viP (i1 i2 i3 i4 i5 : Int) : Prop := (0 ≤ i1 ∧ i1 ≤ 1099511627776) ∧ (0 ≤ i2 ∧ i2 ≤ 1099511627776) ∧ (0 ≤ i3 ∧ i3 ≤ 7) ∧ (84 ≤ i4 ∧ i4 ≤ 1542) ∧ 0 ≤ i5 ∧ i5 ≤ 1099511627776
instance (i1 i2 i3 i4 i5 : Int) : Decidable (viP i1 i2 i3 i4 i5) := by unfold viP; infer_instance
def viB (i1 i2 i3 i4 i5 : Int) : Bool := decide (viP i1 i2 i3 i4 i5)
set_option maxRecDepth 100000 in
theorem validItem_w (i1 i2 i3 i4 i5 : Int) (w0 : World) :
    Calls Try.prog 35 #[.agg #[.int .i64 i1, .int .i64 i2, .int .i64 i3, .int .i64 i4, .int .i64 i5]] w0 (Ret w0 (.bool (viB i1 i2 i3 i4 i5))) := by
 refine enterK 26 Try.func35 rfl rfl rfl ?_
 intro a hF Q0 hR0 hN0
 have hM := Mem.start w0
 refine wp_seq_k fun K1 hK1 => ?_
 refine wp_region_lit ?_
 refine wl (eN 1 1 (t := 39) (fun b => .pointer (some ⟨b, 0, none⟩)) #[.int .i64 i1, .int .i64 i2, .int .i64 i3, .int .i64 i4, .int .i64 i5] hF hM (by kernel_rfl) (fun _ => by kernel_rfl) fun bb1 a w hF hM => ?_)
 refine sB 1 [(2, .bool false)] hF (by kernel_rfl) fun a hF => ?_
 refine wpList_nil ?_
 refine hK1 _ _ ?_
 refine wp_seq_k fun K2 hK2 => ?_
 by_cases hz1 : 0 ≤ i1
 ·skip
  by_cases hz2 : i1 ≤ 1099511627776
  ·skip
   by_cases hz3 : 0 ≤ i2
   ·skip
    by_cases hz4 : i2 ≤ 1099511627776
    ·skip
     by_cases hz5 : 0 ≤ i3
     ·skip
      by_cases hz6 : i3 ≤ 7
      ·skip
       by_cases hz7 : 84 ≤ i4
       ·skip
        by_cases hz8 : i4 ≤ 1542
        ·skip
         by_cases hz9 : 0 ≤ i5
         ·skip
          by_cases hz10 : i5 ≤ 1099511627776
          ·skip
           refine wp_region_lit ?_
           refine sB 1 [(3, .pointer (some ⟨bb1, 0, none⟩))] hF (by kernel_rfl) fun a hF => ?_
           refine wl (eL 4 1 0 (v := .int .i64 i1) hF hM (by kernel_rfl) rfl rfl (by kernel_rfl) (by kernel_rfl) fun a w hF hM => ?_)
           refine wl (eM 5 (v := .bool true) hF hM (by kernel_rfl) (yld_call (f := 31) (args := #[.int .i64 i1, .int .i64 0, .int .i64 1099511627776]) hF (by kernel_rfl) (fun _ => by kernel_rfl) (fun w hM => fiw_yes i1 0 1099511627776 w hz1 hz2)) fun a w hF hM => ?_)
           refine sB 2 [(6, .bool true), (7, .pointer (some ⟨bb1, 1, none⟩))] hF (by kernel_rfl) fun a hF => ?_
           refine wl (eL 8 1 1 (v := .int .i64 i2) hF hM (by kernel_rfl) rfl rfl (by kernel_rfl) (by kernel_rfl) fun a w hF hM => ?_)
           refine wl (eM 9 (v := .bool true) hF hM (by kernel_rfl) (yld_call (f := 31) (args := #[.int .i64 i2, .int .i64 0, .int .i64 1099511627776]) hF (by kernel_rfl) (fun _ => by kernel_rfl) (fun w hM => fiw_yes i2 0 1099511627776 w hz3 hz4)) fun a w hF hM => ?_)
           refine sB 3 [(10, .bool true), (11, .bool true), (12, .pointer (some ⟨bb1, 2, none⟩))] hF (by kernel_rfl) fun a hF => ?_
           refine wl (eL 13 1 2 (v := .int .i64 i3) hF hM (by kernel_rfl) rfl rfl (by kernel_rfl) (by kernel_rfl) fun a w hF hM => ?_)
           refine wl (eM 14 (v := .bool true) hF hM (by kernel_rfl) (yld_call (f := 31) (args := #[.int .i64 i3, .int .i64 0, .int .i64 7]) hF (by kernel_rfl) (fun _ => by kernel_rfl) (fun w hM => fiw_yes i3 0 7 w hz5 hz6)) fun a w hF hM => ?_)
           refine sB 3 [(15, .bool true), (16, .bool true), (17, .pointer (some ⟨bb1, 3, none⟩))] hF (by kernel_rfl) fun a hF => ?_
           refine wl (eL 18 1 3 (v := .int .i64 i4) hF hM (by kernel_rfl) rfl rfl (by kernel_rfl) (by kernel_rfl) fun a w hF hM => ?_)
           refine wl (eM 19 (v := .bool true) hF hM (by kernel_rfl) (yld_call (f := 31) (args := #[.int .i64 i4, .int .i64 84, .int .i64 1542]) hF (by kernel_rfl) (fun _ => by kernel_rfl) (fun w hM => fiw_yes i4 84 1542 w hz7 hz8)) fun a w hF hM => ?_)
           refine sB 3 [(20, .bool true), (21, .bool true), (22, .pointer (some ⟨bb1, 4, none⟩))] hF (by kernel_rfl) fun a hF => ?_
           refine wl (eL 23 1 4 (v := .int .i64 i5) hF hM (by kernel_rfl) rfl rfl (by kernel_rfl) (by kernel_rfl) fun a w hF hM => ?_)
           refine wl (eM 24 (v := .bool true) hF hM (by kernel_rfl) (yld_call (f := 31) (args := #[.int .i64 i5, .int .i64 0, .int .i64 1099511627776]) hF (by kernel_rfl) (fun _ => by kernel_rfl) (fun w hM => fiw_yes i5 0 1099511627776 w hz9 hz10)) fun a w hF hM => ?_)
           refine sB 2 [(25, .bool true), (2, .bool true)] hF (by kernel_rfl) fun a hF => ?_
           refine wpList_nil ?_
           refine hK2 _ _ ?_
           refine wp_ret ?_
           refine hR0 _ _ ?_
           refine ret_of hF hM (.tmp rfl (.nil)) ?_
           exact ⟨ret_bool (decide_eq_true (by unfold viP; omega)).symm, hM.bel⟩
          ·skip
           refine wp_region_lit ?_
           refine sB 1 [(3, .pointer (some ⟨bb1, 0, none⟩))] hF (by kernel_rfl) fun a hF => ?_
           refine wl (eL 4 1 0 (v := .int .i64 i1) hF hM (by kernel_rfl) rfl rfl (by kernel_rfl) (by kernel_rfl) fun a w hF hM => ?_)
           refine wl (eM 5 (v := .bool true) hF hM (by kernel_rfl) (yld_call (f := 31) (args := #[.int .i64 i1, .int .i64 0, .int .i64 1099511627776]) hF (by kernel_rfl) (fun _ => by kernel_rfl) (fun w hM => fiw_yes i1 0 1099511627776 w hz1 hz2)) fun a w hF hM => ?_)
           refine sB 2 [(6, .bool true), (7, .pointer (some ⟨bb1, 1, none⟩))] hF (by kernel_rfl) fun a hF => ?_
           refine wl (eL 8 1 1 (v := .int .i64 i2) hF hM (by kernel_rfl) rfl rfl (by kernel_rfl) (by kernel_rfl) fun a w hF hM => ?_)
           refine wl (eM 9 (v := .bool true) hF hM (by kernel_rfl) (yld_call (f := 31) (args := #[.int .i64 i2, .int .i64 0, .int .i64 1099511627776]) hF (by kernel_rfl) (fun _ => by kernel_rfl) (fun w hM => fiw_yes i2 0 1099511627776 w hz3 hz4)) fun a w hF hM => ?_)
           refine sB 3 [(10, .bool true), (11, .bool true), (12, .pointer (some ⟨bb1, 2, none⟩))] hF (by kernel_rfl) fun a hF => ?_
           refine wl (eL 13 1 2 (v := .int .i64 i3) hF hM (by kernel_rfl) rfl rfl (by kernel_rfl) (by kernel_rfl) fun a w hF hM => ?_)
           refine wl (eM 14 (v := .bool true) hF hM (by kernel_rfl) (yld_call (f := 31) (args := #[.int .i64 i3, .int .i64 0, .int .i64 7]) hF (by kernel_rfl) (fun _ => by kernel_rfl) (fun w hM => fiw_yes i3 0 7 w hz5 hz6)) fun a w hF hM => ?_)
           refine sB 3 [(15, .bool true), (16, .bool true), (17, .pointer (some ⟨bb1, 3, none⟩))] hF (by kernel_rfl) fun a hF => ?_
           refine wl (eL 18 1 3 (v := .int .i64 i4) hF hM (by kernel_rfl) rfl rfl (by kernel_rfl) (by kernel_rfl) fun a w hF hM => ?_)
           refine wl (eM 19 (v := .bool true) hF hM (by kernel_rfl) (yld_call (f := 31) (args := #[.int .i64 i4, .int .i64 84, .int .i64 1542]) hF (by kernel_rfl) (fun _ => by kernel_rfl) (fun w hM => fiw_yes i4 84 1542 w hz7 hz8)) fun a w hF hM => ?_)
           refine sB 3 [(20, .bool true), (21, .bool true), (22, .pointer (some ⟨bb1, 4, none⟩))] hF (by kernel_rfl) fun a hF => ?_
           refine wl (eL 23 1 4 (v := .int .i64 i5) hF hM (by kernel_rfl) rfl rfl (by kernel_rfl) (by kernel_rfl) fun a w hF hM => ?_)
           refine wl (eM 24 (v := .bool false) hF hM (by kernel_rfl) (yld_call (f := 31) (args := #[.int .i64 i5, .int .i64 0, .int .i64 1099511627776]) hF (by kernel_rfl) (fun _ => by kernel_rfl) (fun w hM => fiw_no i5 0 1099511627776 w (.inr hz10))) fun a w hF hM => ?_)
           refine sB 2 [(25, .bool false), (2, .bool false)] hF (by kernel_rfl) fun a hF => ?_
           refine wpList_nil ?_
           refine hK2 _ _ ?_
           refine wp_ret ?_
           refine hR0 _ _ ?_
           refine ret_of hF hM (.tmp rfl (.nil)) ?_
           exact ⟨ret_bool (decide_eq_false (by unfold viP; omega)).symm, hM.bel⟩
         ·skip
          refine wp_region_lit ?_
          refine sB 1 [(3, .pointer (some ⟨bb1, 0, none⟩))] hF (by kernel_rfl) fun a hF => ?_
          refine wl (eL 4 1 0 (v := .int .i64 i1) hF hM (by kernel_rfl) rfl rfl (by kernel_rfl) (by kernel_rfl) fun a w hF hM => ?_)
          refine wl (eM 5 (v := .bool true) hF hM (by kernel_rfl) (yld_call (f := 31) (args := #[.int .i64 i1, .int .i64 0, .int .i64 1099511627776]) hF (by kernel_rfl) (fun _ => by kernel_rfl) (fun w hM => fiw_yes i1 0 1099511627776 w hz1 hz2)) fun a w hF hM => ?_)
          refine sB 2 [(6, .bool true), (7, .pointer (some ⟨bb1, 1, none⟩))] hF (by kernel_rfl) fun a hF => ?_
          refine wl (eL 8 1 1 (v := .int .i64 i2) hF hM (by kernel_rfl) rfl rfl (by kernel_rfl) (by kernel_rfl) fun a w hF hM => ?_)
          refine wl (eM 9 (v := .bool true) hF hM (by kernel_rfl) (yld_call (f := 31) (args := #[.int .i64 i2, .int .i64 0, .int .i64 1099511627776]) hF (by kernel_rfl) (fun _ => by kernel_rfl) (fun w hM => fiw_yes i2 0 1099511627776 w hz3 hz4)) fun a w hF hM => ?_)
          refine sB 3 [(10, .bool true), (11, .bool true), (12, .pointer (some ⟨bb1, 2, none⟩))] hF (by kernel_rfl) fun a hF => ?_
          refine wl (eL 13 1 2 (v := .int .i64 i3) hF hM (by kernel_rfl) rfl rfl (by kernel_rfl) (by kernel_rfl) fun a w hF hM => ?_)
          refine wl (eM 14 (v := .bool true) hF hM (by kernel_rfl) (yld_call (f := 31) (args := #[.int .i64 i3, .int .i64 0, .int .i64 7]) hF (by kernel_rfl) (fun _ => by kernel_rfl) (fun w hM => fiw_yes i3 0 7 w hz5 hz6)) fun a w hF hM => ?_)
          refine sB 3 [(15, .bool true), (16, .bool true), (17, .pointer (some ⟨bb1, 3, none⟩))] hF (by kernel_rfl) fun a hF => ?_
          refine wl (eL 18 1 3 (v := .int .i64 i4) hF hM (by kernel_rfl) rfl rfl (by kernel_rfl) (by kernel_rfl) fun a w hF hM => ?_)
          refine wl (eM 19 (v := .bool true) hF hM (by kernel_rfl) (yld_call (f := 31) (args := #[.int .i64 i4, .int .i64 84, .int .i64 1542]) hF (by kernel_rfl) (fun _ => by kernel_rfl) (fun w hM => fiw_yes i4 84 1542 w hz7 hz8)) fun a w hF hM => ?_)
          refine sB 3 [(20, .bool true), (21, .bool true), (22, .pointer (some ⟨bb1, 4, none⟩))] hF (by kernel_rfl) fun a hF => ?_
          refine wl (eL 23 1 4 (v := .int .i64 i5) hF hM (by kernel_rfl) rfl rfl (by kernel_rfl) (by kernel_rfl) fun a w hF hM => ?_)
          refine wl (eM 24 (v := .bool false) hF hM (by kernel_rfl) (yld_call (f := 31) (args := #[.int .i64 i5, .int .i64 0, .int .i64 1099511627776]) hF (by kernel_rfl) (fun _ => by kernel_rfl) (fun w hM => fiw_no i5 0 1099511627776 w (.inl hz9))) fun a w hF hM => ?_)
          refine sB 2 [(25, .bool false), (2, .bool false)] hF (by kernel_rfl) fun a hF => ?_
          refine wpList_nil ?_
          refine hK2 _ _ ?_
          refine wp_ret ?_
          refine hR0 _ _ ?_
          refine ret_of hF hM (.tmp rfl (.nil)) ?_
          exact ⟨ret_bool (decide_eq_false (by unfold viP; omega)).symm, hM.bel⟩
        ·skip
         refine wp_region_lit ?_
         refine sB 1 [(3, .pointer (some ⟨bb1, 0, none⟩))] hF (by kernel_rfl) fun a hF => ?_
         refine wl (eL 4 1 0 (v := .int .i64 i1) hF hM (by kernel_rfl) rfl rfl (by kernel_rfl) (by kernel_rfl) fun a w hF hM => ?_)
         refine wl (eM 5 (v := .bool true) hF hM (by kernel_rfl) (yld_call (f := 31) (args := #[.int .i64 i1, .int .i64 0, .int .i64 1099511627776]) hF (by kernel_rfl) (fun _ => by kernel_rfl) (fun w hM => fiw_yes i1 0 1099511627776 w hz1 hz2)) fun a w hF hM => ?_)
         refine sB 2 [(6, .bool true), (7, .pointer (some ⟨bb1, 1, none⟩))] hF (by kernel_rfl) fun a hF => ?_
         refine wl (eL 8 1 1 (v := .int .i64 i2) hF hM (by kernel_rfl) rfl rfl (by kernel_rfl) (by kernel_rfl) fun a w hF hM => ?_)
         refine wl (eM 9 (v := .bool true) hF hM (by kernel_rfl) (yld_call (f := 31) (args := #[.int .i64 i2, .int .i64 0, .int .i64 1099511627776]) hF (by kernel_rfl) (fun _ => by kernel_rfl) (fun w hM => fiw_yes i2 0 1099511627776 w hz3 hz4)) fun a w hF hM => ?_)
         refine sB 3 [(10, .bool true), (11, .bool true), (12, .pointer (some ⟨bb1, 2, none⟩))] hF (by kernel_rfl) fun a hF => ?_
         refine wl (eL 13 1 2 (v := .int .i64 i3) hF hM (by kernel_rfl) rfl rfl (by kernel_rfl) (by kernel_rfl) fun a w hF hM => ?_)
         refine wl (eM 14 (v := .bool true) hF hM (by kernel_rfl) (yld_call (f := 31) (args := #[.int .i64 i3, .int .i64 0, .int .i64 7]) hF (by kernel_rfl) (fun _ => by kernel_rfl) (fun w hM => fiw_yes i3 0 7 w hz5 hz6)) fun a w hF hM => ?_)
         refine sB 3 [(15, .bool true), (16, .bool true), (17, .pointer (some ⟨bb1, 3, none⟩))] hF (by kernel_rfl) fun a hF => ?_
         refine wl (eL 18 1 3 (v := .int .i64 i4) hF hM (by kernel_rfl) rfl rfl (by kernel_rfl) (by kernel_rfl) fun a w hF hM => ?_)
         refine wl (eM 19 (v := .bool false) hF hM (by kernel_rfl) (yld_call (f := 31) (args := #[.int .i64 i4, .int .i64 84, .int .i64 1542]) hF (by kernel_rfl) (fun _ => by kernel_rfl) (fun w hM => fiw_no i4 84 1542 w (.inr hz8))) fun a w hF hM => ?_)
         refine sB 7 [(20, .bool false), (21, .bool false), (22, undef), (23, undef), (24, undef), (25, .bool false), (2, .bool false)] hF (by kernel_rfl) fun a hF => ?_
         refine wpList_nil ?_
         refine hK2 _ _ ?_
         refine wp_ret ?_
         refine hR0 _ _ ?_
         refine ret_of hF hM (.tmp rfl (.nil)) ?_
         exact ⟨ret_bool (decide_eq_false (by unfold viP; omega)).symm, hM.bel⟩
       ·skip
        refine wp_region_lit ?_
        refine sB 1 [(3, .pointer (some ⟨bb1, 0, none⟩))] hF (by kernel_rfl) fun a hF => ?_
        refine wl (eL 4 1 0 (v := .int .i64 i1) hF hM (by kernel_rfl) rfl rfl (by kernel_rfl) (by kernel_rfl) fun a w hF hM => ?_)
        refine wl (eM 5 (v := .bool true) hF hM (by kernel_rfl) (yld_call (f := 31) (args := #[.int .i64 i1, .int .i64 0, .int .i64 1099511627776]) hF (by kernel_rfl) (fun _ => by kernel_rfl) (fun w hM => fiw_yes i1 0 1099511627776 w hz1 hz2)) fun a w hF hM => ?_)
        refine sB 2 [(6, .bool true), (7, .pointer (some ⟨bb1, 1, none⟩))] hF (by kernel_rfl) fun a hF => ?_
        refine wl (eL 8 1 1 (v := .int .i64 i2) hF hM (by kernel_rfl) rfl rfl (by kernel_rfl) (by kernel_rfl) fun a w hF hM => ?_)
        refine wl (eM 9 (v := .bool true) hF hM (by kernel_rfl) (yld_call (f := 31) (args := #[.int .i64 i2, .int .i64 0, .int .i64 1099511627776]) hF (by kernel_rfl) (fun _ => by kernel_rfl) (fun w hM => fiw_yes i2 0 1099511627776 w hz3 hz4)) fun a w hF hM => ?_)
        refine sB 3 [(10, .bool true), (11, .bool true), (12, .pointer (some ⟨bb1, 2, none⟩))] hF (by kernel_rfl) fun a hF => ?_
        refine wl (eL 13 1 2 (v := .int .i64 i3) hF hM (by kernel_rfl) rfl rfl (by kernel_rfl) (by kernel_rfl) fun a w hF hM => ?_)
        refine wl (eM 14 (v := .bool true) hF hM (by kernel_rfl) (yld_call (f := 31) (args := #[.int .i64 i3, .int .i64 0, .int .i64 7]) hF (by kernel_rfl) (fun _ => by kernel_rfl) (fun w hM => fiw_yes i3 0 7 w hz5 hz6)) fun a w hF hM => ?_)
        refine sB 3 [(15, .bool true), (16, .bool true), (17, .pointer (some ⟨bb1, 3, none⟩))] hF (by kernel_rfl) fun a hF => ?_
        refine wl (eL 18 1 3 (v := .int .i64 i4) hF hM (by kernel_rfl) rfl rfl (by kernel_rfl) (by kernel_rfl) fun a w hF hM => ?_)
        refine wl (eM 19 (v := .bool false) hF hM (by kernel_rfl) (yld_call (f := 31) (args := #[.int .i64 i4, .int .i64 84, .int .i64 1542]) hF (by kernel_rfl) (fun _ => by kernel_rfl) (fun w hM => fiw_no i4 84 1542 w (.inl hz7))) fun a w hF hM => ?_)
        refine sB 7 [(20, .bool false), (21, .bool false), (22, undef), (23, undef), (24, undef), (25, .bool false), (2, .bool false)] hF (by kernel_rfl) fun a hF => ?_
        refine wpList_nil ?_
        refine hK2 _ _ ?_
        refine wp_ret ?_
        refine hR0 _ _ ?_
        refine ret_of hF hM (.tmp rfl (.nil)) ?_
        exact ⟨ret_bool (decide_eq_false (by unfold viP; omega)).symm, hM.bel⟩
      ·skip
       refine wp_region_lit ?_
       refine sB 1 [(3, .pointer (some ⟨bb1, 0, none⟩))] hF (by kernel_rfl) fun a hF => ?_
       refine wl (eL 4 1 0 (v := .int .i64 i1) hF hM (by kernel_rfl) rfl rfl (by kernel_rfl) (by kernel_rfl) fun a w hF hM => ?_)
       refine wl (eM 5 (v := .bool true) hF hM (by kernel_rfl) (yld_call (f := 31) (args := #[.int .i64 i1, .int .i64 0, .int .i64 1099511627776]) hF (by kernel_rfl) (fun _ => by kernel_rfl) (fun w hM => fiw_yes i1 0 1099511627776 w hz1 hz2)) fun a w hF hM => ?_)
       refine sB 2 [(6, .bool true), (7, .pointer (some ⟨bb1, 1, none⟩))] hF (by kernel_rfl) fun a hF => ?_
       refine wl (eL 8 1 1 (v := .int .i64 i2) hF hM (by kernel_rfl) rfl rfl (by kernel_rfl) (by kernel_rfl) fun a w hF hM => ?_)
       refine wl (eM 9 (v := .bool true) hF hM (by kernel_rfl) (yld_call (f := 31) (args := #[.int .i64 i2, .int .i64 0, .int .i64 1099511627776]) hF (by kernel_rfl) (fun _ => by kernel_rfl) (fun w hM => fiw_yes i2 0 1099511627776 w hz3 hz4)) fun a w hF hM => ?_)
       refine sB 3 [(10, .bool true), (11, .bool true), (12, .pointer (some ⟨bb1, 2, none⟩))] hF (by kernel_rfl) fun a hF => ?_
       refine wl (eL 13 1 2 (v := .int .i64 i3) hF hM (by kernel_rfl) rfl rfl (by kernel_rfl) (by kernel_rfl) fun a w hF hM => ?_)
       refine wl (eM 14 (v := .bool false) hF hM (by kernel_rfl) (yld_call (f := 31) (args := #[.int .i64 i3, .int .i64 0, .int .i64 7]) hF (by kernel_rfl) (fun _ => by kernel_rfl) (fun w hM => fiw_no i3 0 7 w (.inr hz6))) fun a w hF hM => ?_)
       refine sB 12 [(15, .bool false), (16, .bool false), (17, undef), (18, undef), (19, undef), (20, .bool false), (21, .bool false), (22, undef), (23, undef), (24, undef), (25, .bool false), (2, .bool false)] hF (by kernel_rfl) fun a hF => ?_
       refine wpList_nil ?_
       refine hK2 _ _ ?_
       refine wp_ret ?_
       refine hR0 _ _ ?_
       refine ret_of hF hM (.tmp rfl (.nil)) ?_
       exact ⟨ret_bool (decide_eq_false (by unfold viP; omega)).symm, hM.bel⟩
     ·skip
      refine wp_region_lit ?_
      refine sB 1 [(3, .pointer (some ⟨bb1, 0, none⟩))] hF (by kernel_rfl) fun a hF => ?_
      refine wl (eL 4 1 0 (v := .int .i64 i1) hF hM (by kernel_rfl) rfl rfl (by kernel_rfl) (by kernel_rfl) fun a w hF hM => ?_)
      refine wl (eM 5 (v := .bool true) hF hM (by kernel_rfl) (yld_call (f := 31) (args := #[.int .i64 i1, .int .i64 0, .int .i64 1099511627776]) hF (by kernel_rfl) (fun _ => by kernel_rfl) (fun w hM => fiw_yes i1 0 1099511627776 w hz1 hz2)) fun a w hF hM => ?_)
      refine sB 2 [(6, .bool true), (7, .pointer (some ⟨bb1, 1, none⟩))] hF (by kernel_rfl) fun a hF => ?_
      refine wl (eL 8 1 1 (v := .int .i64 i2) hF hM (by kernel_rfl) rfl rfl (by kernel_rfl) (by kernel_rfl) fun a w hF hM => ?_)
      refine wl (eM 9 (v := .bool true) hF hM (by kernel_rfl) (yld_call (f := 31) (args := #[.int .i64 i2, .int .i64 0, .int .i64 1099511627776]) hF (by kernel_rfl) (fun _ => by kernel_rfl) (fun w hM => fiw_yes i2 0 1099511627776 w hz3 hz4)) fun a w hF hM => ?_)
      refine sB 3 [(10, .bool true), (11, .bool true), (12, .pointer (some ⟨bb1, 2, none⟩))] hF (by kernel_rfl) fun a hF => ?_
      refine wl (eL 13 1 2 (v := .int .i64 i3) hF hM (by kernel_rfl) rfl rfl (by kernel_rfl) (by kernel_rfl) fun a w hF hM => ?_)
      refine wl (eM 14 (v := .bool false) hF hM (by kernel_rfl) (yld_call (f := 31) (args := #[.int .i64 i3, .int .i64 0, .int .i64 7]) hF (by kernel_rfl) (fun _ => by kernel_rfl) (fun w hM => fiw_no i3 0 7 w (.inl hz5))) fun a w hF hM => ?_)
      refine sB 12 [(15, .bool false), (16, .bool false), (17, undef), (18, undef), (19, undef), (20, .bool false), (21, .bool false), (22, undef), (23, undef), (24, undef), (25, .bool false), (2, .bool false)] hF (by kernel_rfl) fun a hF => ?_
      refine wpList_nil ?_
      refine hK2 _ _ ?_
      refine wp_ret ?_
      refine hR0 _ _ ?_
      refine ret_of hF hM (.tmp rfl (.nil)) ?_
      exact ⟨ret_bool (decide_eq_false (by unfold viP; omega)).symm, hM.bel⟩
    ·skip
     refine wp_region_lit ?_
     refine sB 1 [(3, .pointer (some ⟨bb1, 0, none⟩))] hF (by kernel_rfl) fun a hF => ?_
     refine wl (eL 4 1 0 (v := .int .i64 i1) hF hM (by kernel_rfl) rfl rfl (by kernel_rfl) (by kernel_rfl) fun a w hF hM => ?_)
     refine wl (eM 5 (v := .bool true) hF hM (by kernel_rfl) (yld_call (f := 31) (args := #[.int .i64 i1, .int .i64 0, .int .i64 1099511627776]) hF (by kernel_rfl) (fun _ => by kernel_rfl) (fun w hM => fiw_yes i1 0 1099511627776 w hz1 hz2)) fun a w hF hM => ?_)
     refine sB 2 [(6, .bool true), (7, .pointer (some ⟨bb1, 1, none⟩))] hF (by kernel_rfl) fun a hF => ?_
     refine wl (eL 8 1 1 (v := .int .i64 i2) hF hM (by kernel_rfl) rfl rfl (by kernel_rfl) (by kernel_rfl) fun a w hF hM => ?_)
     refine wl (eM 9 (v := .bool false) hF hM (by kernel_rfl) (yld_call (f := 31) (args := #[.int .i64 i2, .int .i64 0, .int .i64 1099511627776]) hF (by kernel_rfl) (fun _ => by kernel_rfl) (fun w hM => fiw_no i2 0 1099511627776 w (.inr hz4))) fun a w hF hM => ?_)
     refine sB 17 [(10, .bool false), (11, .bool false), (12, undef), (13, undef), (14, undef), (15, .bool false), (16, .bool false), (17, undef), (18, undef), (19, undef), (20, .bool false), (21, .bool false), (22, undef), (23, undef), (24, undef), (25, .bool false), (2, .bool false)] hF (by kernel_rfl) fun a hF => ?_
     refine wpList_nil ?_
     refine hK2 _ _ ?_
     refine wp_ret ?_
     refine hR0 _ _ ?_
     refine ret_of hF hM (.tmp rfl (.nil)) ?_
     exact ⟨ret_bool (decide_eq_false (by unfold viP; omega)).symm, hM.bel⟩
   ·skip
    refine wp_region_lit ?_
    refine sB 1 [(3, .pointer (some ⟨bb1, 0, none⟩))] hF (by kernel_rfl) fun a hF => ?_
    refine wl (eL 4 1 0 (v := .int .i64 i1) hF hM (by kernel_rfl) rfl rfl (by kernel_rfl) (by kernel_rfl) fun a w hF hM => ?_)
    refine wl (eM 5 (v := .bool true) hF hM (by kernel_rfl) (yld_call (f := 31) (args := #[.int .i64 i1, .int .i64 0, .int .i64 1099511627776]) hF (by kernel_rfl) (fun _ => by kernel_rfl) (fun w hM => fiw_yes i1 0 1099511627776 w hz1 hz2)) fun a w hF hM => ?_)
    refine sB 2 [(6, .bool true), (7, .pointer (some ⟨bb1, 1, none⟩))] hF (by kernel_rfl) fun a hF => ?_
    refine wl (eL 8 1 1 (v := .int .i64 i2) hF hM (by kernel_rfl) rfl rfl (by kernel_rfl) (by kernel_rfl) fun a w hF hM => ?_)
    refine wl (eM 9 (v := .bool false) hF hM (by kernel_rfl) (yld_call (f := 31) (args := #[.int .i64 i2, .int .i64 0, .int .i64 1099511627776]) hF (by kernel_rfl) (fun _ => by kernel_rfl) (fun w hM => fiw_no i2 0 1099511627776 w (.inl hz3))) fun a w hF hM => ?_)
    refine sB 17 [(10, .bool false), (11, .bool false), (12, undef), (13, undef), (14, undef), (15, .bool false), (16, .bool false), (17, undef), (18, undef), (19, undef), (20, .bool false), (21, .bool false), (22, undef), (23, undef), (24, undef), (25, .bool false), (2, .bool false)] hF (by kernel_rfl) fun a hF => ?_
    refine wpList_nil ?_
    refine hK2 _ _ ?_
    refine wp_ret ?_
    refine hR0 _ _ ?_
    refine ret_of hF hM (.tmp rfl (.nil)) ?_
    exact ⟨ret_bool (decide_eq_false (by unfold viP; omega)).symm, hM.bel⟩
  ·skip
   refine wp_region_lit ?_
   refine sB 1 [(3, .pointer (some ⟨bb1, 0, none⟩))] hF (by kernel_rfl) fun a hF => ?_
   refine wl (eL 4 1 0 (v := .int .i64 i1) hF hM (by kernel_rfl) rfl rfl (by kernel_rfl) (by kernel_rfl) fun a w hF hM => ?_)
   refine wl (eM 5 (v := .bool false) hF hM (by kernel_rfl) (yld_call (f := 31) (args := #[.int .i64 i1, .int .i64 0, .int .i64 1099511627776]) hF (by kernel_rfl) (fun _ => by kernel_rfl) (fun w hM => fiw_no i1 0 1099511627776 w (.inr hz2))) fun a w hF hM => ?_)
   refine sB 21 [(6, .bool false), (7, undef), (8, undef), (9, undef), (10, .bool false), (11, .bool false), (12, undef), (13, undef), (14, undef), (15, .bool false), (16, .bool false), (17, undef), (18, undef), (19, undef), (20, .bool false), (21, .bool false), (22, undef), (23, undef), (24, undef), (25, .bool false), (2, .bool false)] hF (by kernel_rfl) fun a hF => ?_
   refine wpList_nil ?_
   refine hK2 _ _ ?_
   refine wp_ret ?_
   refine hR0 _ _ ?_
   refine ret_of hF hM (.tmp rfl (.nil)) ?_
   exact ⟨ret_bool (decide_eq_false (by unfold viP; omega)).symm, hM.bel⟩
 ·skip
  refine wp_region_lit ?_
  refine sB 1 [(3, .pointer (some ⟨bb1, 0, none⟩))] hF (by kernel_rfl) fun a hF => ?_
  refine wl (eL 4 1 0 (v := .int .i64 i1) hF hM (by kernel_rfl) rfl rfl (by kernel_rfl) (by kernel_rfl) fun a w hF hM => ?_)
  refine wl (eM 5 (v := .bool false) hF hM (by kernel_rfl) (yld_call (f := 31) (args := #[.int .i64 i1, .int .i64 0, .int .i64 1099511627776]) hF (by kernel_rfl) (fun _ => by kernel_rfl) (fun w hM => fiw_no i1 0 1099511627776 w (.inl hz1))) fun a w hF hM => ?_)
  refine sB 21 [(6, .bool false), (7, undef), (8, undef), (9, undef), (10, .bool false), (11, .bool false), (12, undef), (13, undef), (14, undef), (15, .bool false), (16, .bool false), (17, undef), (18, undef), (19, undef), (20, .bool false), (21, .bool false), (22, undef), (23, undef), (24, undef), (25, .bool false), (2, .bool false)] hF (by kernel_rfl) fun a hF => ?_
  refine wpList_nil ?_
  refine hK2 _ _ ?_
  refine wp_ret ?_
  refine hR0 _ _ ?_
  refine ret_of hF hM (.tmp rfl (.nil)) ?_
  exact ⟨ret_bool (decide_eq_false (by unfold viP; omega)).symm, hM.bel⟩

end Go.Proofs.Ytogeficooemngaa
