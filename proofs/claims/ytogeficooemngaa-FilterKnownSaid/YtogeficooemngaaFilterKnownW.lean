/-
  The examples of the filter.
-/
import Derived.Test.YtogeficooemngaaFiR
namespace Go.Proofs.Ytogeficooemngaa
open Go.RowKit
set_option linter.unusedVariables false
set_option linter.unusedSimpArgs false

set_option maxRecDepth 100000 in
set_option maxHeartbeats 40000000 in
theorem filterKnown_walk (w0 : World) :
    Calls Try.prog 7 #[] w0 (Ret w0 (.bool true)) := by
 refine enterK 212 Try.func7 rfl rfl rfl ?_
 intro a hF Q0 hR0 hN0
 have hM := Mem.start w0
 refine wp_seq_k fun K1 hK1 => ?_
 refine wp_region_lit ?_
 refine sB 1 [(0, .bool false)] hF (by kernel_rfl) fun a hF => ?_
 refine wpList_nil ?_
 refine hK1 _ _ ?_
 refine wp_seq_k fun K2 hK2 => ?_
 refine wp_seq_k fun K3 hK3 => ?_
 refine wp_region_lit ?_
 refine wl (eM 32 (v := .bool true) hF hM (by kernel_rfl) (yld_call (f := 9) (args := #[]) hF (by kernel_rfl) (fun _ => by kernel_rfl) (fun w hM => wakes_w w)) fun a w hF hM => ?_)
 refine sB 1 [(33, .bool false)] hF (by kernel_rfl) fun a hF => ?_
 refine wpList_nil ?_
 refine hK3 _ _ ?_
 refine cF hF (by kernel_rfl) (by kernel_rfl) ?_
 refine wp_skip ?_
 refine hK2 _ _ ?_
 refine wp_seq_k fun K4 hK4 => ?_
 refine wp_region_lit ?_
 refine wl (sC (f := 23) (args := #[]) hF (by kernel_rfl) rfl (by decide) (by kernel_rfl) (fun _ => by kernel_rfl) ?_)
 refine enterK 4 Try.func23 rfl rfl rfl ?_
 intro a1 hF1 QR5 hR5 hNR5
 refine wp_seq_k fun K6 hK6 => ?_
 refine wp_region_lit ?_
 refine sB 1 [(0, .slice none 0 0)] hF1 (by kernel_rfl) fun a1 hF1 => ?_
 refine wpList_nil ?_
 refine hK6 _ _ ?_
 refine wp_seq_k fun K7 hK7 => ?_
 refine wp_region_lit ?_
 refine sB 2 [(1, .agg #[.int .i64 3, .int .i64 9, .int .i64 7, .int .i64 100, .int .i64 1000, .int .i64 200, .int .i64 250]), (2, .agg #[.int .i64 3, .int .i64 8, .int .i64 6, .int .i64 300, .int .i64 0, .int .i64 0, .int .i64 0])] hF1 (by kernel_rfl) fun a1 hF1 => ?_
 refine wl (eN 3 1 (t := 57) (fun b => .slice (some ⟨b, 0, none⟩) 2 2) #[.int .i64 3, .int .i64 9, .int .i64 7, .int .i64 100, .int .i64 1000, .int .i64 200, .int .i64 250, .int .i64 3, .int .i64 8, .int .i64 6, .int .i64 300, .int .i64 0, .int .i64 0, .int .i64 0] hF1 hM (by kernel_rfl) (fun _ => by kernel_rfl) fun bb1 a1 w hF1 hM => ?_)
 refine sB 1 [(0, .slice (some ⟨bb1, 0, none⟩) 2 2)] hF1 (by kernel_rfl) fun a1 hF1 => ?_
 refine wpList_nil ?_
 refine hK7 _ _ ?_
 refine wp_ret ?_
 refine hR5 _ _ ?_
 refine ret_of hF1 hM (.tmp rfl (.nil)) ⟨_, rfl, ?_⟩
 intro a hF
 refine wl (sC (f := 24) (args := #[]) hF (by kernel_rfl) rfl (by decide) (by kernel_rfl) (fun _ => by kernel_rfl) ?_)
 refine enterK 5 Try.func24 rfl rfl rfl ?_
 intro a1 hF1 QR8 hR8 hNR8
 refine wp_seq_k fun K9 hK9 => ?_
 refine wp_region_lit ?_
 refine sB 1 [(0, .slice none 0 0)] hF1 (by kernel_rfl) fun a1 hF1 => ?_
 refine wpList_nil ?_
 refine hK9 _ _ ?_
 refine wp_seq_k fun K10 hK10 => ?_
 refine wp_region_lit ?_
 refine sB 3 [(1, .agg #[.int .i64 100, .int .i64 1]), (2, .agg #[.int .i64 100, .int .i64 1]), (3, .agg #[.int .i64 5, .int .i64 100, .int .i64 1, .int .i64 100, .int .i64 1])] hF1 (by kernel_rfl) fun a1 hF1 => ?_
 refine wl (eN 4 2 (t := 69) (fun b => .slice (some ⟨b, 0, none⟩) 1 1) #[.int .i64 5, .int .i64 100, .int .i64 1, .int .i64 100, .int .i64 1] hF1 hM (by kernel_rfl) (fun _ => by kernel_rfl) fun bb2 a1 w hF1 hM => ?_)
 refine sB 1 [(0, .slice (some ⟨bb2, 0, none⟩) 1 1)] hF1 (by kernel_rfl) fun a1 hF1 => ?_
 refine wpList_nil ?_
 refine hK10 _ _ ?_
 refine wp_ret ?_
 refine hR8 _ _ ?_
 refine ret_of hF1 hM (.tmp rfl (.nil)) ⟨_, rfl, ?_⟩
 intro a hF
 refine wl (sRo2 3 4 (f := 13) (args := #[.slice (some ⟨bb1, 0, none⟩) 2 2, .slice (some ⟨bb2, 0, none⟩) 1 1]) (mk := (fun x y => .tuple #[.agg #[.slice (some ⟨bb1, 0, none⟩) 2 2, .slice (some ⟨bb2, 0, none⟩) 1 1, .int .i64 (-1000), x, y], .int .i64 0])) (A3 := none) (A4 := none) (n3 := 2) (n4 := 1) (xs := (([-1, -1]).map (Value.int .i64))) (ys := (flatR ([[0, 104857600, 104857600]]))) hF hM (by kernel_rfl) rfl (by decide) (by kernel_rfl) (fun _ => by kernel_rfl) (fiNew_ok (some ⟨bb1, 0, none⟩) [[3, 9, 7, 100, 1000, 200, 250], [3, 8, 6, 300, 0, 0, 0]] 2 (some ⟨bb2, 0, none⟩) [[5, 100, 1, 100, 1]] 1 w (hM.roRow (k := 1) rfl) (show WR 7 ([[3, 9, 7, 100, 1000, 200, 250], [3, 8, 6, 300, 0, 0, 0]] : List (List Int)) from by unfold WR; simp) (hM.roRow (k := 2) rfl) (show WR 5 ([[5, 100, 1, 100, 1]] : List (List Int)) from by unfold WR; simp) (by kernel_rfl) (by kernel_rfl) (by kernel_rfl) rfl rfl) (.inr Free.none_) (.inr Free.none_) fun AA3 cc3 AA4 cc4 a w hF hM => ?_)
 refine sB 3 [(34, .tuple #[.agg #[.slice (some ⟨bb1, 0, none⟩) 2 2, .slice (some ⟨bb2, 0, none⟩) 1 1, .int .i64 (-1000), .slice AA3 2 cc3, .slice AA4 1 cc4], .int .i64 0]), (38, .agg #[.slice (some ⟨bb1, 0, none⟩) 2 2, .slice (some ⟨bb2, 0, none⟩) 1 1, .int .i64 (-1000), .slice AA3 2 cc3, .slice AA4 1 cc4]), (39, .int .i64 0)] hF (by kernel_rfl) fun a hF => ?_
 refine wl (eN 1 5 (t := 27) (fun b => .pointer (some ⟨b, 0, none⟩)) #[.slice none 0 0, .slice none 0 0, .int .i64 0, .slice none 0 0, .slice none 0 0] hF hM (by kernel_rfl) (fun _ => by kernel_rfl) fun bb5 a w hF hM => ?_)
 refine wl (sStore (i := 5) (off := 0) (cs' := #[.slice (some ⟨bb1, 0, none⟩) 2 2, .slice (some ⟨bb2, 0, none⟩) 1 1, .int .i64 (-1000), .slice AA3 2 cc3, .slice AA4 1 cc4]) hF hM (by kernel_rfl) rfl rfl (by kernel_rfl) (by kernel_rfl) rfl (by kernel_rfl) fun w hM => ?_)
 refine sB 1 [(2, .int .i64 0)] hF (by kernel_rfl) fun a hF => ?_
 refine wpList_nil ?_
 refine hK4 _ _ ?_
 refine wp_seq_k fun K11 hK11 => ?_
 refine wp_seq_k fun K12 hK12 => ?_
 refine wp_region_lit ?_
 refine sB 1 [(40, .int .i64 0)] hF (by kernel_rfl) fun a hF => ?_
 refine wl (eP 41 (v0 := .bool (!decide (0 = 0))) (v := .bool false) hF (by kernel_rfl) (fun _ => by kernel_rfl) (nT (by omega)) fun a hF => ?_)
 refine wpList_nil ?_
 refine hK12 _ _ ?_
 refine cF hF (by kernel_rfl) (by kernel_rfl) ?_
 refine wp_skip ?_
 refine hK11 _ _ ?_
 refine wp_seq_k fun K13 hK13 => ?_
 refine wp_seq_k fun K14 hK14 => ?_
 refine wp_region_lit ?_
 refine wl (eM 42 (v := .agg #[.int .i64 9, .int .i64 0, .int .i64 7, .int .i64 100, .int .i64 0]) hF hM (by kernel_rfl) (yld_call (f := 25) (args := #[.int .i64 9, .int .i64 7, .int .i64 100]) hF (by kernel_rfl) (fun _ => by kernel_rfl) (fun w hM => frame_w 9 7 100 w)) fun a w hF hM => ?_)
 refine sB 1 [(43, .agg #[.int .i64 3, .int .i64 9, .int .i64 0, .int .i64 7, .int .i64 100, .int .i64 0, .int .i64 199, .int .i64 3])] hF (by kernel_rfl) fun a hF => ?_
 refine wl (eM 44 (v := .agg #[.int .i64 9, .int .i64 0, .int .i64 7, .int .i64 100, .int .i64 0]) hF hM (by kernel_rfl) (yld_call (f := 25) (args := #[.int .i64 9, .int .i64 7, .int .i64 100]) hF (by kernel_rfl) (fun _ => by kernel_rfl) (fun w hM => frame_w 9 7 100 w)) fun a w hF hM => ?_)
 refine sB 1 [(45, .agg #[.int .i64 3, .int .i64 9, .int .i64 0, .int .i64 7, .int .i64 100, .int .i64 0, .int .i64 220, .int .i64 0])] hF (by kernel_rfl) fun a hF => ?_
 refine wl (eM 46 (v := .agg #[.int .i64 9, .int .i64 0, .int .i64 7, .int .i64 100, .int .i64 0]) hF hM (by kernel_rfl) (yld_call (f := 25) (args := #[.int .i64 9, .int .i64 7, .int .i64 100]) hF (by kernel_rfl) (fun _ => by kernel_rfl) (fun w hM => frame_w 9 7 100 w)) fun a w hF hM => ?_)
 refine sB 1 [(47, .agg #[.int .i64 3, .int .i64 9, .int .i64 0, .int .i64 7, .int .i64 100, .int .i64 0, .int .i64 230, .int .i64 4])] hF (by kernel_rfl) fun a hF => ?_
 refine wl (eM 48 (v := .agg #[.int .i64 9, .int .i64 0, .int .i64 7, .int .i64 100, .int .i64 0]) hF hM (by kernel_rfl) (yld_call (f := 25) (args := #[.int .i64 9, .int .i64 7, .int .i64 100]) hF (by kernel_rfl) (fun _ => by kernel_rfl) (fun w hM => frame_w 9 7 100 w)) fun a w hF hM => ?_)
 refine sB 1 [(49, .agg #[.int .i64 3, .int .i64 9, .int .i64 0, .int .i64 7, .int .i64 100, .int .i64 0, .int .i64 251, .int .i64 3])] hF (by kernel_rfl) fun a hF => ?_
 refine wl (eM 50 (v := .agg #[.int .i64 9, .int .i64 0, .int .i64 7, .int .i64 100, .int .i64 0]) hF hM (by kernel_rfl) (yld_call (f := 25) (args := #[.int .i64 9, .int .i64 7, .int .i64 100]) hF (by kernel_rfl) (fun _ => by kernel_rfl) (fun w hM => frame_w 9 7 100 w)) fun a w hF hM => ?_)
 refine sB 1 [(51, .agg #[.int .i64 3, .int .i64 9, .int .i64 0, .int .i64 7, .int .i64 100, .int .i64 0, .int .i64 1199, .int .i64 3])] hF (by kernel_rfl) fun a hF => ?_
 refine wl (eM 52 (v := .agg #[.int .i64 9, .int .i64 0, .int .i64 7, .int .i64 100, .int .i64 0]) hF hM (by kernel_rfl) (yld_call (f := 25) (args := #[.int .i64 9, .int .i64 7, .int .i64 100]) hF (by kernel_rfl) (fun _ => by kernel_rfl) (fun w hM => frame_w 9 7 100 w)) fun a w hF hM => ?_)
 refine sB 1 [(53, .agg #[.int .i64 3, .int .i64 9, .int .i64 0, .int .i64 7, .int .i64 100, .int .i64 0, .int .i64 1200, .int .i64 0])] hF (by kernel_rfl) fun a hF => ?_
 refine wl (eM 54 (v := .agg #[.int .i64 9, .int .i64 0, .int .i64 7, .int .i64 100, .int .i64 0]) hF hM (by kernel_rfl) (yld_call (f := 25) (args := #[.int .i64 9, .int .i64 7, .int .i64 100]) hF (by kernel_rfl) (fun _ => by kernel_rfl) (fun w hM => frame_w 9 7 100 w)) fun a w hF hM => ?_)
 refine sB 1 [(55, .agg #[.int .i64 4, .int .i64 9, .int .i64 0, .int .i64 7, .int .i64 100, .int .i64 0, .int .i64 2200, .int .i64 1])] hF (by kernel_rfl) fun a hF => ?_
 refine wl (eM 56 (v := .agg #[.int .i64 9, .int .i64 0, .int .i64 7, .int .i64 100, .int .i64 0]) hF hM (by kernel_rfl) (yld_call (f := 25) (args := #[.int .i64 9, .int .i64 7, .int .i64 100]) hF (by kernel_rfl) (fun _ => by kernel_rfl) (fun w hM => frame_w 9 7 100 w)) fun a w hF hM => ?_)
 refine sB 1 [(57, .agg #[.int .i64 3, .int .i64 9, .int .i64 0, .int .i64 7, .int .i64 100, .int .i64 0, .int .i64 2250, .int .i64 0])] hF (by kernel_rfl) fun a hF => ?_
 refine wl (eM 58 (v := .agg #[.int .i64 9, .int .i64 0, .int .i64 7, .int .i64 99, .int .i64 0]) hF hM (by kernel_rfl) (yld_call (f := 25) (args := #[.int .i64 9, .int .i64 7, .int .i64 99]) hF (by kernel_rfl) (fun _ => by kernel_rfl) (fun w hM => frame_w 9 7 99 w)) fun a w hF hM => ?_)
 refine sB 1 [(59, .agg #[.int .i64 3, .int .i64 9, .int .i64 0, .int .i64 7, .int .i64 99, .int .i64 0, .int .i64 3200, .int .i64 2])] hF (by kernel_rfl) fun a hF => ?_
 refine wl (eM 60 (v := .agg #[.int .i64 9, .int .i64 0, .int .i64 6, .int .i64 99, .int .i64 0]) hF hM (by kernel_rfl) (yld_call (f := 25) (args := #[.int .i64 9, .int .i64 6, .int .i64 99]) hF (by kernel_rfl) (fun _ => by kernel_rfl) (fun w hM => frame_w 9 6 99 w)) fun a w hF hM => ?_)
 refine sB 1 [(61, .agg #[.int .i64 3, .int .i64 9, .int .i64 0, .int .i64 6, .int .i64 99, .int .i64 0, .int .i64 3200, .int .i64 1])] hF (by kernel_rfl) fun a hF => ?_
 refine wl (eM 62 (v := .agg #[.int .i64 8, .int .i64 0, .int .i64 6, .int .i64 300, .int .i64 0]) hF hM (by kernel_rfl) (yld_call (f := 25) (args := #[.int .i64 8, .int .i64 6, .int .i64 300]) hF (by kernel_rfl) (fun _ => by kernel_rfl) (fun w hM => frame_w 8 6 300 w)) fun a w hF hM => ?_)
 refine sB 1 [(63, .agg #[.int .i64 3, .int .i64 8, .int .i64 0, .int .i64 6, .int .i64 300, .int .i64 0, .int .i64 3200, .int .i64 0])] hF (by kernel_rfl) fun a hF => ?_
 refine wl (eM 64 (v := .agg #[.int .i64 8, .int .i64 0, .int .i64 6, .int .i64 301, .int .i64 0]) hF hM (by kernel_rfl) (yld_call (f := 25) (args := #[.int .i64 8, .int .i64 6, .int .i64 301]) hF (by kernel_rfl) (fun _ => by kernel_rfl) (fun w hM => frame_w 8 6 301 w)) fun a w hF hM => ?_)
 refine sB 1 [(65, .agg #[.int .i64 3, .int .i64 8, .int .i64 0, .int .i64 6, .int .i64 301, .int .i64 0, .int .i64 3200, .int .i64 2])] hF (by kernel_rfl) fun a hF => ?_
 refine wl (eM 66 (v := .agg #[.int .i64 0, .int .i64 0, .int .i64 0, .int .i64 100, .int .i64 0]) hF hM (by kernel_rfl) (yld_call (f := 25) (args := #[.int .i64 0, .int .i64 0, .int .i64 100]) hF (by kernel_rfl) (fun _ => by kernel_rfl) (fun w hM => frame_w 0 0 100 w)) fun a w hF hM => ?_)
 refine sB 1 [(67, .agg #[.int .i64 5, .int .i64 0, .int .i64 0, .int .i64 0, .int .i64 100, .int .i64 0, .int .i64 4000, .int .i64 0])] hF (by kernel_rfl) fun a hF => ?_
 refine wl (eM 68 (v := .agg #[.int .i64 0, .int .i64 0, .int .i64 5, .int .i64 100, .int .i64 0]) hF hM (by kernel_rfl) (yld_call (f := 25) (args := #[.int .i64 0, .int .i64 5, .int .i64 100]) hF (by kernel_rfl) (fun _ => by kernel_rfl) (fun w hM => frame_w 0 5 100 w)) fun a w hF hM => ?_)
 refine sB 1 [(69, .agg #[.int .i64 5, .int .i64 0, .int .i64 0, .int .i64 5, .int .i64 100, .int .i64 0, .int .i64 4000, .int .i64 5])] hF (by kernel_rfl) fun a hF => ?_
 refine wl (eM 70 (v := .agg #[.int .i64 0, .int .i64 0, .int .i64 0, .int .i64 100, .int .i64 0]) hF hM (by kernel_rfl) (yld_call (f := 25) (args := #[.int .i64 0, .int .i64 0, .int .i64 100]) hF (by kernel_rfl) (fun _ => by kernel_rfl) (fun w hM => frame_w 0 0 100 w)) fun a w hF hM => ?_)
 refine sB 1 [(71, .agg #[.int .i64 6, .int .i64 0, .int .i64 0, .int .i64 0, .int .i64 100, .int .i64 0, .int .i64 4000, .int .i64 0])] hF (by kernel_rfl) fun a hF => ?_
 refine wl (eN 72 6 (t := 64) (fun b => .slice (some ⟨b, 0, none⟩) 15 15) #[.int .i64 3, .int .i64 9, .int .i64 0, .int .i64 7, .int .i64 100, .int .i64 0, .int .i64 199, .int .i64 3, .int .i64 3, .int .i64 9, .int .i64 0, .int .i64 7, .int .i64 100, .int .i64 0, .int .i64 220, .int .i64 0, .int .i64 3, .int .i64 9, .int .i64 0, .int .i64 7, .int .i64 100, .int .i64 0, .int .i64 230, .int .i64 4, .int .i64 3, .int .i64 9, .int .i64 0, .int .i64 7, .int .i64 100, .int .i64 0, .int .i64 251, .int .i64 3, .int .i64 3, .int .i64 9, .int .i64 0, .int .i64 7, .int .i64 100, .int .i64 0, .int .i64 1199, .int .i64 3, .int .i64 3, .int .i64 9, .int .i64 0, .int .i64 7, .int .i64 100, .int .i64 0, .int .i64 1200, .int .i64 0, .int .i64 4, .int .i64 9, .int .i64 0, .int .i64 7, .int .i64 100, .int .i64 0, .int .i64 2200, .int .i64 1, .int .i64 3, .int .i64 9, .int .i64 0, .int .i64 7, .int .i64 100, .int .i64 0, .int .i64 2250, .int .i64 0, .int .i64 3, .int .i64 9, .int .i64 0, .int .i64 7, .int .i64 99, .int .i64 0, .int .i64 3200, .int .i64 2, .int .i64 3, .int .i64 9, .int .i64 0, .int .i64 6, .int .i64 99, .int .i64 0, .int .i64 3200, .int .i64 1, .int .i64 3, .int .i64 8, .int .i64 0, .int .i64 6, .int .i64 300, .int .i64 0, .int .i64 3200, .int .i64 0, .int .i64 3, .int .i64 8, .int .i64 0, .int .i64 6, .int .i64 301, .int .i64 0, .int .i64 3200, .int .i64 2, .int .i64 5, .int .i64 0, .int .i64 0, .int .i64 0, .int .i64 100, .int .i64 0, .int .i64 4000, .int .i64 0, .int .i64 5, .int .i64 0, .int .i64 0, .int .i64 5, .int .i64 100, .int .i64 0, .int .i64 4000, .int .i64 5, .int .i64 6, .int .i64 0, .int .i64 0, .int .i64 0, .int .i64 100, .int .i64 0, .int .i64 4000, .int .i64 0] hF hM (by kernel_rfl) (fun _ => by kernel_rfl) fun bb6 a w hF hM => ?_)
 refine sB 2 [(73, .int .i64 15), (74, .int .i64 0)] hF (by kernel_rfl) fun a hF => ?_
 refine wpList_nil ?_
 refine hK14 _ _ ?_
 refine wp_block ?_
 refine wp_loop_rounds 16 ?_
 refine rounds_k fun K15 hK15 => ?_
 refine wp_seq_k fun K16 hK16 => ?_
 refine wp_region_lit ?_
 refine wl (eP 75 (v0 := .bool (decide (0 < 15))) (v := .bool true) hF (by kernel_rfl) (fun _ => by kernel_rfl) (bT (by omega)) fun a hF => ?_)
 refine wpList_nil ?_
 refine hK16 _ _ ?_
 refine wp_seq_k fun K17 hK17 => ?_
 refine cT hF (by kernel_rfl) (by kernel_rfl) ?_
 refine wp_skip ?_
 refine hK17 _ _ ?_
 refine wp_seq_k fun K18 hK18 => ?_
 refine wp_block ?_
 refine wp_seq_k fun K19 hK19 => ?_
 refine wp_region_lit ?_
 refine sB 1 [(76, .pointer (some ⟨bb6, 0, none⟩))] hF (by kernel_rfl) fun a hF => ?_
 refine wl (eL 77 6 0 (v := .agg #[.int .i64 3, .int .i64 9, .int .i64 0, .int .i64 7, .int .i64 100, .int .i64 0, .int .i64 199, .int .i64 3]) hF hM (by kernel_rfl) rfl rfl (by kernel_rfl) (by kernel_rfl) fun a w hF hM => ?_)
 refine wl (eN 4 7 (t := 64) (fun b => .pointer (some ⟨b, 0, none⟩)) #[.int .i64 0, .int .i64 0, .int .i64 0, .int .i64 0, .int .i64 0, .int .i64 0, .int .i64 0, .int .i64 0] hF hM (by kernel_rfl) (fun _ => by kernel_rfl) fun bb7 a w hF hM => ?_)
 refine wl (sStore (i := 7) (off := 0) (cs' := #[.int .i64 3, .int .i64 9, .int .i64 0, .int .i64 7, .int .i64 100, .int .i64 0, .int .i64 199, .int .i64 3]) hF hM (by kernel_rfl) rfl rfl (by kernel_rfl) (by kernel_rfl) rfl (by kernel_rfl) fun w hM => ?_)
 refine wpList_nil ?_
 refine hK19 _ _ ?_
 refine wp_seq_k fun K20 hK20 => ?_
 refine wp_region_lit ?_
 refine wl (eL 79 5 0 (v := .agg #[.slice (some ⟨bb1, 0, none⟩) 2 2, .slice (some ⟨bb2, 0, none⟩) 1 1, .int .i64 (-1000), .slice AA3 2 cc3, .slice AA4 1 cc4]) hF hM (by kernel_rfl) rfl rfl (by kernel_rfl) (by kernel_rfl) fun a w hF hM => ?_)
 refine sB 1 [(80, .pointer (some ⟨bb7, 0, none⟩))] hF (by kernel_rfl) fun a hF => ?_
 refine wl (eL 81 7 0 (v := .int .i64 3) hF hM (by kernel_rfl) rfl rfl (by kernel_rfl) (by kernel_rfl) fun a w hF hM => ?_)
 refine sB 1 [(82, .pointer (some ⟨bb7, 1, none⟩))] hF (by kernel_rfl) fun a hF => ?_
 refine wl (eL 83 7 1 (v := .agg #[.int .i64 9, .int .i64 0, .int .i64 7, .int .i64 100, .int .i64 0]) hF hM (by kernel_rfl) rfl rfl (by kernel_rfl) (by kernel_rfl) fun a w hF hM => ?_)
 refine sB 1 [(84, .pointer (some ⟨bb7, 6, none⟩))] hF (by kernel_rfl) fun a hF => ?_
 refine wl (eL 85 7 6 (v := .int .i64 199) hF hM (by kernel_rfl) rfl rfl (by kernel_rfl) (by kernel_rfl) fun a w hF hM => ?_)
 refine wl (sRo2 8 9 (f := 17) (args := #[.agg #[.slice (some ⟨bb1, 0, none⟩) 2 2, .slice (some ⟨bb2, 0, none⟩) 1 1, .int .i64 (-1000), .slice AA3 2 cc3, .slice AA4 1 cc4], .int .i64 3, .agg #[.int .i64 9, .int .i64 0, .int .i64 7, .int .i64 100, .int .i64 0], .int .i64 199]) (mk := (fun x y => .tuple #[.agg #[.slice (some ⟨bb1, 0, none⟩) 2 2, .slice (some ⟨bb2, 0, none⟩) 1 1, .int .i64 199, x, y], .int .i64 3, .int .i64 0])) (A3 := AA3) (A4 := AA4) (n3 := 2) (n4 := 1) (xs := (([-1, -1]).map (Value.int .i64))) (ys := (flatR ([[0, 104857600, 104857600]]))) hF hM (by kernel_rfl) rfl (by decide) (by kernel_rfl) (fun _ => by kernel_rfl) (fiPass_ok (some ⟨bb1, 0, none⟩) [[3, 9, 7, 100, 1000, 200, 250], [3, 8, 6, 300, 0, 0, 0]] 2 (some ⟨bb2, 0, none⟩) [[5, 100, 1, 100, 1]] 1 (-1000) AA3 ([-1, -1]) cc3 AA4 ([[0, 104857600, 104857600]]) cc4 3 9 0 7 100 0 199 w (hM.roRow (k := 1) rfl) (show WR 7 ([[3, 9, 7, 100, 1000, 200, 250], [3, 8, 6, 300, 0, 0, 0]] : List (List Int)) from by unfold WR; simp) (hM.roRow (k := 2) rfl) (show WR 5 ([[5, 100, 1, 100, 1]] : List (List Int)) from by unfold WR; simp) (hM.ok 3 _ rfl) (hM.ok 4 _ rfl) (show WR 3 ([[0, 104857600, 104857600]]) from by unfold WR; simp) (by kernel_rfl) ⟨(by omega), (by omega)⟩ (by kernel_rfl) ⟨(by omega), (by omega)⟩ (by kernel_rfl) rfl rfl) (.inr (hM.free (j := 3) rfl)) (.inr (hM.free (j := 4) rfl)) fun AA8 cc8 AA9 cc9 a w hF hM => ?_)
 refine sB 4 [(78, .tuple #[.agg #[.slice (some ⟨bb1, 0, none⟩) 2 2, .slice (some ⟨bb2, 0, none⟩) 1 1, .int .i64 199, .slice AA8 2 cc8, .slice AA9 1 cc9], .int .i64 3, .int .i64 0]), (87, .agg #[.slice (some ⟨bb1, 0, none⟩) 2 2, .slice (some ⟨bb2, 0, none⟩) 1 1, .int .i64 199, .slice AA8 2 cc8, .slice AA9 1 cc9]), (88, .int .i64 3), (89, .int .i64 0)] hF (by kernel_rfl) fun a hF => ?_
 refine wl (eN 5 10 (t := 27) (fun b => .pointer (some ⟨b, 0, none⟩)) #[.slice none 0 0, .slice none 0 0, .int .i64 0, .slice none 0 0, .slice none 0 0] hF hM (by kernel_rfl) (fun _ => by kernel_rfl) fun bb10 a w hF hM => ?_)
 refine wl (sStore (i := 10) (off := 0) (cs' := #[.slice (some ⟨bb1, 0, none⟩) 2 2, .slice (some ⟨bb2, 0, none⟩) 1 1, .int .i64 199, .slice AA8 2 cc8, .slice AA9 1 cc9]) hF hM (by kernel_rfl) rfl rfl (by kernel_rfl) (by kernel_rfl) rfl (by kernel_rfl) fun w hM => ?_)
 refine sB 2 [(6, .int .i64 3), (7, .int .i64 0)] hF (by kernel_rfl) fun a hF => ?_
 refine wpList_nil ?_
 refine hK20 _ _ ?_
 refine wp_seq_k fun K21 hK21 => ?_
 refine wp_region_lit ?_
 refine wl (eL 90 10 0 (v := .agg #[.slice (some ⟨bb1, 0, none⟩) 2 2, .slice (some ⟨bb2, 0, none⟩) 1 1, .int .i64 199, .slice AA8 2 cc8, .slice AA9 1 cc9]) hF hM (by kernel_rfl) rfl rfl (by kernel_rfl) (by kernel_rfl) fun a w hF hM => ?_)
 refine wl (sStore (i := 5) (off := 0) (cs' := #[.slice (some ⟨bb1, 0, none⟩) 2 2, .slice (some ⟨bb2, 0, none⟩) 1 1, .int .i64 199, .slice AA8 2 cc8, .slice AA9 1 cc9]) hF hM (by kernel_rfl) rfl rfl (by kernel_rfl) (by kernel_rfl) rfl (by kernel_rfl) fun w hM => ?_)
 refine wpList_nil ?_
 refine hK21 _ _ ?_
 refine wp_seq_k fun K22 hK22 => ?_
 refine wp_region_lit ?_
 refine sB 2 [(91, .int .i64 3), (92, .pointer (some ⟨bb7, 7, none⟩))] hF (by kernel_rfl) fun a hF => ?_
 refine wl (eL 93 7 7 (v := .int .i64 3) hF hM (by kernel_rfl) rfl rfl (by kernel_rfl) (by kernel_rfl) fun a w hF hM => ?_)
 refine wl (eP 94 (v0 := .bool (!decide (3 = 3))) (v := .bool false) hF (by kernel_rfl) (fun _ => by kernel_rfl) (nT (by omega)) fun a hF => ?_)
 refine sB 2 [(95, .bool false), (96, .int .i64 0)] hF (by kernel_rfl) fun a hF => ?_
 refine wl (eP 97 (v0 := .bool (!decide (0 = 0))) (v := .bool false) hF (by kernel_rfl) (fun _ => by kernel_rfl) (nT (by omega)) fun a hF => ?_)
 refine sB 1 [(98, .bool false)] hF (by kernel_rfl) fun a hF => ?_
 refine wpList_nil ?_
 refine hK22 _ _ ?_
 refine cF hF (by kernel_rfl) (by kernel_rfl) ?_
 refine wp_skip ?_
 refine hK18 _ _ ?_
 refine wp_region_lit ?_
 refine wl (eP 99 (v0 := .int .i64 (IntKind.i64.wrap (0 + 1))) (v := .int .i64 1) hF (by kernel_rfl) (fun _ => by kernel_rfl) (vi (by decide)) fun a hF => ?_)
 refine sB 1 [(74, .int .i64 1)] hF (by kernel_rfl) fun a hF => ?_
 refine wpList_nil ?_
 refine hK15 _ _ ?_
 refine rounds_k fun K23 hK23 => ?_
 refine wp_seq_k fun K24 hK24 => ?_
 refine wp_region_lit ?_
 refine wl (eP 75 (v0 := .bool (decide (1 < 15))) (v := .bool true) hF (by kernel_rfl) (fun _ => by kernel_rfl) (bT (by omega)) fun a hF => ?_)
 refine wpList_nil ?_
 refine hK24 _ _ ?_
 refine wp_seq_k fun K25 hK25 => ?_
 refine cT hF (by kernel_rfl) (by kernel_rfl) ?_
 refine wp_skip ?_
 refine hK25 _ _ ?_
 refine wp_seq_k fun K26 hK26 => ?_
 refine wp_block ?_
 refine wp_seq_k fun K27 hK27 => ?_
 refine wp_region_lit ?_
 refine sB 1 [(76, .pointer (some ⟨bb6, 8, none⟩))] hF (by kernel_rfl) fun a hF => ?_
 refine wl (eL 77 6 8 (v := .agg #[.int .i64 3, .int .i64 9, .int .i64 0, .int .i64 7, .int .i64 100, .int .i64 0, .int .i64 220, .int .i64 0]) hF hM (by kernel_rfl) rfl rfl (by kernel_rfl) (by kernel_rfl) fun a w hF hM => ?_)
 refine wl (eN 4 11 (t := 64) (fun b => .pointer (some ⟨b, 0, none⟩)) #[.int .i64 0, .int .i64 0, .int .i64 0, .int .i64 0, .int .i64 0, .int .i64 0, .int .i64 0, .int .i64 0] hF hM (by kernel_rfl) (fun _ => by kernel_rfl) fun bb11 a w hF hM => ?_)
 refine wl (sStore (i := 11) (off := 0) (cs' := #[.int .i64 3, .int .i64 9, .int .i64 0, .int .i64 7, .int .i64 100, .int .i64 0, .int .i64 220, .int .i64 0]) hF hM (by kernel_rfl) rfl rfl (by kernel_rfl) (by kernel_rfl) rfl (by kernel_rfl) fun w hM => ?_)
 refine wpList_nil ?_
 refine hK27 _ _ ?_
 refine wp_seq_k fun K28 hK28 => ?_
 refine wp_region_lit ?_
 refine wl (eL 79 5 0 (v := .agg #[.slice (some ⟨bb1, 0, none⟩) 2 2, .slice (some ⟨bb2, 0, none⟩) 1 1, .int .i64 199, .slice AA8 2 cc8, .slice AA9 1 cc9]) hF hM (by kernel_rfl) rfl rfl (by kernel_rfl) (by kernel_rfl) fun a w hF hM => ?_)
 refine sB 1 [(80, .pointer (some ⟨bb11, 0, none⟩))] hF (by kernel_rfl) fun a hF => ?_
 refine wl (eL 81 11 0 (v := .int .i64 3) hF hM (by kernel_rfl) rfl rfl (by kernel_rfl) (by kernel_rfl) fun a w hF hM => ?_)
 refine sB 1 [(82, .pointer (some ⟨bb11, 1, none⟩))] hF (by kernel_rfl) fun a hF => ?_
 refine wl (eL 83 11 1 (v := .agg #[.int .i64 9, .int .i64 0, .int .i64 7, .int .i64 100, .int .i64 0]) hF hM (by kernel_rfl) rfl rfl (by kernel_rfl) (by kernel_rfl) fun a w hF hM => ?_)
 refine sB 1 [(84, .pointer (some ⟨bb11, 6, none⟩))] hF (by kernel_rfl) fun a hF => ?_
 refine wl (eL 85 11 6 (v := .int .i64 220) hF hM (by kernel_rfl) rfl rfl (by kernel_rfl) (by kernel_rfl) fun a w hF hM => ?_)
 refine wl (sRo2 12 13 (f := 17) (args := #[.agg #[.slice (some ⟨bb1, 0, none⟩) 2 2, .slice (some ⟨bb2, 0, none⟩) 1 1, .int .i64 199, .slice AA8 2 cc8, .slice AA9 1 cc9], .int .i64 3, .agg #[.int .i64 9, .int .i64 0, .int .i64 7, .int .i64 100, .int .i64 0], .int .i64 220]) (mk := (fun x y => .tuple #[.agg #[.slice (some ⟨bb1, 0, none⟩) 2 2, .slice (some ⟨bb2, 0, none⟩) 1 1, .int .i64 220, x, y], .int .i64 0, .int .i64 0])) (A3 := AA8) (A4 := AA9) (n3 := 2) (n4 := 1) (xs := (([0, -1]).map (Value.int .i64))) (ys := (flatR ([[0, 104857600, 104857600]]))) hF hM (by kernel_rfl) rfl (by decide) (by kernel_rfl) (fun _ => by kernel_rfl) (fiPass_ok (some ⟨bb1, 0, none⟩) [[3, 9, 7, 100, 1000, 200, 250], [3, 8, 6, 300, 0, 0, 0]] 2 (some ⟨bb2, 0, none⟩) [[5, 100, 1, 100, 1]] 1 199 AA8 ([-1, -1]) cc8 AA9 ([[0, 104857600, 104857600]]) cc9 3 9 0 7 100 0 220 w (hM.roRow (k := 1) rfl) (show WR 7 ([[3, 9, 7, 100, 1000, 200, 250], [3, 8, 6, 300, 0, 0, 0]] : List (List Int)) from by unfold WR; simp) (hM.roRow (k := 2) rfl) (show WR 5 ([[5, 100, 1, 100, 1]] : List (List Int)) from by unfold WR; simp) (hM.ok 8 _ rfl) (hM.ok 9 _ rfl) (show WR 3 ([[0, 104857600, 104857600]]) from by unfold WR; simp) (by kernel_rfl) ⟨(by omega), (by omega)⟩ (by kernel_rfl) ⟨(by omega), (by omega)⟩ (by kernel_rfl) rfl rfl) (.inr (hM.free (j := 8) rfl)) (.inr (hM.free (j := 9) rfl)) fun AA12 cc12 AA13 cc13 a w hF hM => ?_)
 refine sB 4 [(78, .tuple #[.agg #[.slice (some ⟨bb1, 0, none⟩) 2 2, .slice (some ⟨bb2, 0, none⟩) 1 1, .int .i64 220, .slice AA12 2 cc12, .slice AA13 1 cc13], .int .i64 0, .int .i64 0]), (87, .agg #[.slice (some ⟨bb1, 0, none⟩) 2 2, .slice (some ⟨bb2, 0, none⟩) 1 1, .int .i64 220, .slice AA12 2 cc12, .slice AA13 1 cc13]), (88, .int .i64 0), (89, .int .i64 0)] hF (by kernel_rfl) fun a hF => ?_
 refine wl (eN 5 14 (t := 27) (fun b => .pointer (some ⟨b, 0, none⟩)) #[.slice none 0 0, .slice none 0 0, .int .i64 0, .slice none 0 0, .slice none 0 0] hF hM (by kernel_rfl) (fun _ => by kernel_rfl) fun bb14 a w hF hM => ?_)
 refine wl (sStore (i := 14) (off := 0) (cs' := #[.slice (some ⟨bb1, 0, none⟩) 2 2, .slice (some ⟨bb2, 0, none⟩) 1 1, .int .i64 220, .slice AA12 2 cc12, .slice AA13 1 cc13]) hF hM (by kernel_rfl) rfl rfl (by kernel_rfl) (by kernel_rfl) rfl (by kernel_rfl) fun w hM => ?_)
 refine sB 2 [(6, .int .i64 0), (7, .int .i64 0)] hF (by kernel_rfl) fun a hF => ?_
 refine wpList_nil ?_
 refine hK28 _ _ ?_
 refine wp_seq_k fun K29 hK29 => ?_
 refine wp_region_lit ?_
 refine wl (eL 90 14 0 (v := .agg #[.slice (some ⟨bb1, 0, none⟩) 2 2, .slice (some ⟨bb2, 0, none⟩) 1 1, .int .i64 220, .slice AA12 2 cc12, .slice AA13 1 cc13]) hF hM (by kernel_rfl) rfl rfl (by kernel_rfl) (by kernel_rfl) fun a w hF hM => ?_)
 refine wl (sStore (i := 5) (off := 0) (cs' := #[.slice (some ⟨bb1, 0, none⟩) 2 2, .slice (some ⟨bb2, 0, none⟩) 1 1, .int .i64 220, .slice AA12 2 cc12, .slice AA13 1 cc13]) hF hM (by kernel_rfl) rfl rfl (by kernel_rfl) (by kernel_rfl) rfl (by kernel_rfl) fun w hM => ?_)
 refine wpList_nil ?_
 refine hK29 _ _ ?_
 refine wp_seq_k fun K30 hK30 => ?_
 refine wp_region_lit ?_
 refine sB 2 [(91, .int .i64 0), (92, .pointer (some ⟨bb11, 7, none⟩))] hF (by kernel_rfl) fun a hF => ?_
 refine wl (eL 93 11 7 (v := .int .i64 0) hF hM (by kernel_rfl) rfl rfl (by kernel_rfl) (by kernel_rfl) fun a w hF hM => ?_)
 refine wl (eP 94 (v0 := .bool (!decide (0 = 0))) (v := .bool false) hF (by kernel_rfl) (fun _ => by kernel_rfl) (nT (by omega)) fun a hF => ?_)
 refine sB 2 [(95, .bool false), (96, .int .i64 0)] hF (by kernel_rfl) fun a hF => ?_
 refine wl (eP 97 (v0 := .bool (!decide (0 = 0))) (v := .bool false) hF (by kernel_rfl) (fun _ => by kernel_rfl) (nT (by omega)) fun a hF => ?_)
 refine sB 1 [(98, .bool false)] hF (by kernel_rfl) fun a hF => ?_
 refine wpList_nil ?_
 refine hK30 _ _ ?_
 refine cF hF (by kernel_rfl) (by kernel_rfl) ?_
 refine wp_skip ?_
 refine hK26 _ _ ?_
 refine wp_region_lit ?_
 refine wl (eP 99 (v0 := .int .i64 (IntKind.i64.wrap (1 + 1))) (v := .int .i64 2) hF (by kernel_rfl) (fun _ => by kernel_rfl) (vi (by decide)) fun a hF => ?_)
 refine sB 1 [(74, .int .i64 2)] hF (by kernel_rfl) fun a hF => ?_
 refine wpList_nil ?_
 refine hK23 _ _ ?_
 refine rounds_k fun K31 hK31 => ?_
 refine wp_seq_k fun K32 hK32 => ?_
 refine wp_region_lit ?_
 refine wl (eP 75 (v0 := .bool (decide (2 < 15))) (v := .bool true) hF (by kernel_rfl) (fun _ => by kernel_rfl) (bT (by omega)) fun a hF => ?_)
 refine wpList_nil ?_
 refine hK32 _ _ ?_
 refine wp_seq_k fun K33 hK33 => ?_
 refine cT hF (by kernel_rfl) (by kernel_rfl) ?_
 refine wp_skip ?_
 refine hK33 _ _ ?_
 refine wp_seq_k fun K34 hK34 => ?_
 refine wp_block ?_
 refine wp_seq_k fun K35 hK35 => ?_
 refine wp_region_lit ?_
 refine sB 1 [(76, .pointer (some ⟨bb6, 16, none⟩))] hF (by kernel_rfl) fun a hF => ?_
 refine wl (eL 77 6 16 (v := .agg #[.int .i64 3, .int .i64 9, .int .i64 0, .int .i64 7, .int .i64 100, .int .i64 0, .int .i64 230, .int .i64 4]) hF hM (by kernel_rfl) rfl rfl (by kernel_rfl) (by kernel_rfl) fun a w hF hM => ?_)
 refine wl (eN 4 15 (t := 64) (fun b => .pointer (some ⟨b, 0, none⟩)) #[.int .i64 0, .int .i64 0, .int .i64 0, .int .i64 0, .int .i64 0, .int .i64 0, .int .i64 0, .int .i64 0] hF hM (by kernel_rfl) (fun _ => by kernel_rfl) fun bb15 a w hF hM => ?_)
 refine wl (sStore (i := 15) (off := 0) (cs' := #[.int .i64 3, .int .i64 9, .int .i64 0, .int .i64 7, .int .i64 100, .int .i64 0, .int .i64 230, .int .i64 4]) hF hM (by kernel_rfl) rfl rfl (by kernel_rfl) (by kernel_rfl) rfl (by kernel_rfl) fun w hM => ?_)
 refine wpList_nil ?_
 refine hK35 _ _ ?_
 refine wp_seq_k fun K36 hK36 => ?_
 refine wp_region_lit ?_
 refine wl (eL 79 5 0 (v := .agg #[.slice (some ⟨bb1, 0, none⟩) 2 2, .slice (some ⟨bb2, 0, none⟩) 1 1, .int .i64 220, .slice AA12 2 cc12, .slice AA13 1 cc13]) hF hM (by kernel_rfl) rfl rfl (by kernel_rfl) (by kernel_rfl) fun a w hF hM => ?_)
 refine sB 1 [(80, .pointer (some ⟨bb15, 0, none⟩))] hF (by kernel_rfl) fun a hF => ?_
 refine wl (eL 81 15 0 (v := .int .i64 3) hF hM (by kernel_rfl) rfl rfl (by kernel_rfl) (by kernel_rfl) fun a w hF hM => ?_)
 refine sB 1 [(82, .pointer (some ⟨bb15, 1, none⟩))] hF (by kernel_rfl) fun a hF => ?_
 refine wl (eL 83 15 1 (v := .agg #[.int .i64 9, .int .i64 0, .int .i64 7, .int .i64 100, .int .i64 0]) hF hM (by kernel_rfl) rfl rfl (by kernel_rfl) (by kernel_rfl) fun a w hF hM => ?_)
 refine sB 1 [(84, .pointer (some ⟨bb15, 6, none⟩))] hF (by kernel_rfl) fun a hF => ?_
 refine wl (eL 85 15 6 (v := .int .i64 230) hF hM (by kernel_rfl) rfl rfl (by kernel_rfl) (by kernel_rfl) fun a w hF hM => ?_)
 refine wl (sRo2 16 17 (f := 17) (args := #[.agg #[.slice (some ⟨bb1, 0, none⟩) 2 2, .slice (some ⟨bb2, 0, none⟩) 1 1, .int .i64 220, .slice AA12 2 cc12, .slice AA13 1 cc13], .int .i64 3, .agg #[.int .i64 9, .int .i64 0, .int .i64 7, .int .i64 100, .int .i64 0], .int .i64 230]) (mk := (fun x y => .tuple #[.agg #[.slice (some ⟨bb1, 0, none⟩) 2 2, .slice (some ⟨bb2, 0, none⟩) 1 1, .int .i64 230, x, y], .int .i64 4, .int .i64 0])) (A3 := AA12) (A4 := AA13) (n3 := 2) (n4 := 1) (xs := (([0, -1]).map (Value.int .i64))) (ys := (flatR ([[0, 104857600, 104857600]]))) hF hM (by kernel_rfl) rfl (by decide) (by kernel_rfl) (fun _ => by kernel_rfl) (fiPass_ok (some ⟨bb1, 0, none⟩) [[3, 9, 7, 100, 1000, 200, 250], [3, 8, 6, 300, 0, 0, 0]] 2 (some ⟨bb2, 0, none⟩) [[5, 100, 1, 100, 1]] 1 220 AA12 ([0, -1]) cc12 AA13 ([[0, 104857600, 104857600]]) cc13 3 9 0 7 100 0 230 w (hM.roRow (k := 1) rfl) (show WR 7 ([[3, 9, 7, 100, 1000, 200, 250], [3, 8, 6, 300, 0, 0, 0]] : List (List Int)) from by unfold WR; simp) (hM.roRow (k := 2) rfl) (show WR 5 ([[5, 100, 1, 100, 1]] : List (List Int)) from by unfold WR; simp) (hM.ok 12 _ rfl) (hM.ok 13 _ rfl) (show WR 3 ([[0, 104857600, 104857600]]) from by unfold WR; simp) (by kernel_rfl) ⟨(by omega), (by omega)⟩ (by kernel_rfl) ⟨(by omega), (by omega)⟩ (by kernel_rfl) rfl rfl) (.inr (hM.free (j := 12) rfl)) (.inr (hM.free (j := 13) rfl)) fun AA16 cc16 AA17 cc17 a w hF hM => ?_)
 refine sB 4 [(78, .tuple #[.agg #[.slice (some ⟨bb1, 0, none⟩) 2 2, .slice (some ⟨bb2, 0, none⟩) 1 1, .int .i64 230, .slice AA16 2 cc16, .slice AA17 1 cc17], .int .i64 4, .int .i64 0]), (87, .agg #[.slice (some ⟨bb1, 0, none⟩) 2 2, .slice (some ⟨bb2, 0, none⟩) 1 1, .int .i64 230, .slice AA16 2 cc16, .slice AA17 1 cc17]), (88, .int .i64 4), (89, .int .i64 0)] hF (by kernel_rfl) fun a hF => ?_
 refine wl (eN 5 18 (t := 27) (fun b => .pointer (some ⟨b, 0, none⟩)) #[.slice none 0 0, .slice none 0 0, .int .i64 0, .slice none 0 0, .slice none 0 0] hF hM (by kernel_rfl) (fun _ => by kernel_rfl) fun bb18 a w hF hM => ?_)
 refine wl (sStore (i := 18) (off := 0) (cs' := #[.slice (some ⟨bb1, 0, none⟩) 2 2, .slice (some ⟨bb2, 0, none⟩) 1 1, .int .i64 230, .slice AA16 2 cc16, .slice AA17 1 cc17]) hF hM (by kernel_rfl) rfl rfl (by kernel_rfl) (by kernel_rfl) rfl (by kernel_rfl) fun w hM => ?_)
 refine sB 2 [(6, .int .i64 4), (7, .int .i64 0)] hF (by kernel_rfl) fun a hF => ?_
 refine wpList_nil ?_
 refine hK36 _ _ ?_
 refine wp_seq_k fun K37 hK37 => ?_
 refine wp_region_lit ?_
 refine wl (eL 90 18 0 (v := .agg #[.slice (some ⟨bb1, 0, none⟩) 2 2, .slice (some ⟨bb2, 0, none⟩) 1 1, .int .i64 230, .slice AA16 2 cc16, .slice AA17 1 cc17]) hF hM (by kernel_rfl) rfl rfl (by kernel_rfl) (by kernel_rfl) fun a w hF hM => ?_)
 refine wl (sStore (i := 5) (off := 0) (cs' := #[.slice (some ⟨bb1, 0, none⟩) 2 2, .slice (some ⟨bb2, 0, none⟩) 1 1, .int .i64 230, .slice AA16 2 cc16, .slice AA17 1 cc17]) hF hM (by kernel_rfl) rfl rfl (by kernel_rfl) (by kernel_rfl) rfl (by kernel_rfl) fun w hM => ?_)
 refine wpList_nil ?_
 refine hK37 _ _ ?_
 refine wp_seq_k fun K38 hK38 => ?_
 refine wp_region_lit ?_
 refine sB 2 [(91, .int .i64 4), (92, .pointer (some ⟨bb15, 7, none⟩))] hF (by kernel_rfl) fun a hF => ?_
 refine wl (eL 93 15 7 (v := .int .i64 4) hF hM (by kernel_rfl) rfl rfl (by kernel_rfl) (by kernel_rfl) fun a w hF hM => ?_)
 refine wl (eP 94 (v0 := .bool (!decide (4 = 4))) (v := .bool false) hF (by kernel_rfl) (fun _ => by kernel_rfl) (nT (by omega)) fun a hF => ?_)
 refine sB 2 [(95, .bool false), (96, .int .i64 0)] hF (by kernel_rfl) fun a hF => ?_
 refine wl (eP 97 (v0 := .bool (!decide (0 = 0))) (v := .bool false) hF (by kernel_rfl) (fun _ => by kernel_rfl) (nT (by omega)) fun a hF => ?_)
 refine sB 1 [(98, .bool false)] hF (by kernel_rfl) fun a hF => ?_
 refine wpList_nil ?_
 refine hK38 _ _ ?_
 refine cF hF (by kernel_rfl) (by kernel_rfl) ?_
 refine wp_skip ?_
 refine hK34 _ _ ?_
 refine wp_region_lit ?_
 refine wl (eP 99 (v0 := .int .i64 (IntKind.i64.wrap (2 + 1))) (v := .int .i64 3) hF (by kernel_rfl) (fun _ => by kernel_rfl) (vi (by decide)) fun a hF => ?_)
 refine sB 1 [(74, .int .i64 3)] hF (by kernel_rfl) fun a hF => ?_
 refine wpList_nil ?_
 refine hK31 _ _ ?_
 refine rounds_k fun K39 hK39 => ?_
 refine wp_seq_k fun K40 hK40 => ?_
 refine wp_region_lit ?_
 refine wl (eP 75 (v0 := .bool (decide (3 < 15))) (v := .bool true) hF (by kernel_rfl) (fun _ => by kernel_rfl) (bT (by omega)) fun a hF => ?_)
 refine wpList_nil ?_
 refine hK40 _ _ ?_
 refine wp_seq_k fun K41 hK41 => ?_
 refine cT hF (by kernel_rfl) (by kernel_rfl) ?_
 refine wp_skip ?_
 refine hK41 _ _ ?_
 refine wp_seq_k fun K42 hK42 => ?_
 refine wp_block ?_
 refine wp_seq_k fun K43 hK43 => ?_
 refine wp_region_lit ?_
 refine sB 1 [(76, .pointer (some ⟨bb6, 24, none⟩))] hF (by kernel_rfl) fun a hF => ?_
 refine wl (eL 77 6 24 (v := .agg #[.int .i64 3, .int .i64 9, .int .i64 0, .int .i64 7, .int .i64 100, .int .i64 0, .int .i64 251, .int .i64 3]) hF hM (by kernel_rfl) rfl rfl (by kernel_rfl) (by kernel_rfl) fun a w hF hM => ?_)
 refine wl (eN 4 19 (t := 64) (fun b => .pointer (some ⟨b, 0, none⟩)) #[.int .i64 0, .int .i64 0, .int .i64 0, .int .i64 0, .int .i64 0, .int .i64 0, .int .i64 0, .int .i64 0] hF hM (by kernel_rfl) (fun _ => by kernel_rfl) fun bb19 a w hF hM => ?_)
 refine wl (sStore (i := 19) (off := 0) (cs' := #[.int .i64 3, .int .i64 9, .int .i64 0, .int .i64 7, .int .i64 100, .int .i64 0, .int .i64 251, .int .i64 3]) hF hM (by kernel_rfl) rfl rfl (by kernel_rfl) (by kernel_rfl) rfl (by kernel_rfl) fun w hM => ?_)
 refine wpList_nil ?_
 refine hK43 _ _ ?_
 refine wp_seq_k fun K44 hK44 => ?_
 refine wp_region_lit ?_
 refine wl (eL 79 5 0 (v := .agg #[.slice (some ⟨bb1, 0, none⟩) 2 2, .slice (some ⟨bb2, 0, none⟩) 1 1, .int .i64 230, .slice AA16 2 cc16, .slice AA17 1 cc17]) hF hM (by kernel_rfl) rfl rfl (by kernel_rfl) (by kernel_rfl) fun a w hF hM => ?_)
 refine sB 1 [(80, .pointer (some ⟨bb19, 0, none⟩))] hF (by kernel_rfl) fun a hF => ?_
 refine wl (eL 81 19 0 (v := .int .i64 3) hF hM (by kernel_rfl) rfl rfl (by kernel_rfl) (by kernel_rfl) fun a w hF hM => ?_)
 refine sB 1 [(82, .pointer (some ⟨bb19, 1, none⟩))] hF (by kernel_rfl) fun a hF => ?_
 refine wl (eL 83 19 1 (v := .agg #[.int .i64 9, .int .i64 0, .int .i64 7, .int .i64 100, .int .i64 0]) hF hM (by kernel_rfl) rfl rfl (by kernel_rfl) (by kernel_rfl) fun a w hF hM => ?_)
 refine sB 1 [(84, .pointer (some ⟨bb19, 6, none⟩))] hF (by kernel_rfl) fun a hF => ?_
 refine wl (eL 85 19 6 (v := .int .i64 251) hF hM (by kernel_rfl) rfl rfl (by kernel_rfl) (by kernel_rfl) fun a w hF hM => ?_)
 refine wl (sRo2 20 21 (f := 17) (args := #[.agg #[.slice (some ⟨bb1, 0, none⟩) 2 2, .slice (some ⟨bb2, 0, none⟩) 1 1, .int .i64 230, .slice AA16 2 cc16, .slice AA17 1 cc17], .int .i64 3, .agg #[.int .i64 9, .int .i64 0, .int .i64 7, .int .i64 100, .int .i64 0], .int .i64 251]) (mk := (fun x y => .tuple #[.agg #[.slice (some ⟨bb1, 0, none⟩) 2 2, .slice (some ⟨bb2, 0, none⟩) 1 1, .int .i64 251, x, y], .int .i64 3, .int .i64 0])) (A3 := AA16) (A4 := AA17) (n3 := 2) (n4 := 1) (xs := (([0, -1]).map (Value.int .i64))) (ys := (flatR ([[0, 104857600, 104857600]]))) hF hM (by kernel_rfl) rfl (by decide) (by kernel_rfl) (fun _ => by kernel_rfl) (fiPass_ok (some ⟨bb1, 0, none⟩) [[3, 9, 7, 100, 1000, 200, 250], [3, 8, 6, 300, 0, 0, 0]] 2 (some ⟨bb2, 0, none⟩) [[5, 100, 1, 100, 1]] 1 230 AA16 ([0, -1]) cc16 AA17 ([[0, 104857600, 104857600]]) cc17 3 9 0 7 100 0 251 w (hM.roRow (k := 1) rfl) (show WR 7 ([[3, 9, 7, 100, 1000, 200, 250], [3, 8, 6, 300, 0, 0, 0]] : List (List Int)) from by unfold WR; simp) (hM.roRow (k := 2) rfl) (show WR 5 ([[5, 100, 1, 100, 1]] : List (List Int)) from by unfold WR; simp) (hM.ok 16 _ rfl) (hM.ok 17 _ rfl) (show WR 3 ([[0, 104857600, 104857600]]) from by unfold WR; simp) (by kernel_rfl) ⟨(by omega), (by omega)⟩ (by kernel_rfl) ⟨(by omega), (by omega)⟩ (by kernel_rfl) rfl rfl) (.inr (hM.free (j := 16) rfl)) (.inr (hM.free (j := 17) rfl)) fun AA20 cc20 AA21 cc21 a w hF hM => ?_)
 refine sB 4 [(78, .tuple #[.agg #[.slice (some ⟨bb1, 0, none⟩) 2 2, .slice (some ⟨bb2, 0, none⟩) 1 1, .int .i64 251, .slice AA20 2 cc20, .slice AA21 1 cc21], .int .i64 3, .int .i64 0]), (87, .agg #[.slice (some ⟨bb1, 0, none⟩) 2 2, .slice (some ⟨bb2, 0, none⟩) 1 1, .int .i64 251, .slice AA20 2 cc20, .slice AA21 1 cc21]), (88, .int .i64 3), (89, .int .i64 0)] hF (by kernel_rfl) fun a hF => ?_
 refine wl (eN 5 22 (t := 27) (fun b => .pointer (some ⟨b, 0, none⟩)) #[.slice none 0 0, .slice none 0 0, .int .i64 0, .slice none 0 0, .slice none 0 0] hF hM (by kernel_rfl) (fun _ => by kernel_rfl) fun bb22 a w hF hM => ?_)
 refine wl (sStore (i := 22) (off := 0) (cs' := #[.slice (some ⟨bb1, 0, none⟩) 2 2, .slice (some ⟨bb2, 0, none⟩) 1 1, .int .i64 251, .slice AA20 2 cc20, .slice AA21 1 cc21]) hF hM (by kernel_rfl) rfl rfl (by kernel_rfl) (by kernel_rfl) rfl (by kernel_rfl) fun w hM => ?_)
 refine sB 2 [(6, .int .i64 3), (7, .int .i64 0)] hF (by kernel_rfl) fun a hF => ?_
 refine wpList_nil ?_
 refine hK44 _ _ ?_
 refine wp_seq_k fun K45 hK45 => ?_
 refine wp_region_lit ?_
 refine wl (eL 90 22 0 (v := .agg #[.slice (some ⟨bb1, 0, none⟩) 2 2, .slice (some ⟨bb2, 0, none⟩) 1 1, .int .i64 251, .slice AA20 2 cc20, .slice AA21 1 cc21]) hF hM (by kernel_rfl) rfl rfl (by kernel_rfl) (by kernel_rfl) fun a w hF hM => ?_)
 refine wl (sStore (i := 5) (off := 0) (cs' := #[.slice (some ⟨bb1, 0, none⟩) 2 2, .slice (some ⟨bb2, 0, none⟩) 1 1, .int .i64 251, .slice AA20 2 cc20, .slice AA21 1 cc21]) hF hM (by kernel_rfl) rfl rfl (by kernel_rfl) (by kernel_rfl) rfl (by kernel_rfl) fun w hM => ?_)
 refine wpList_nil ?_
 refine hK45 _ _ ?_
 refine wp_seq_k fun K46 hK46 => ?_
 refine wp_region_lit ?_
 refine sB 2 [(91, .int .i64 3), (92, .pointer (some ⟨bb19, 7, none⟩))] hF (by kernel_rfl) fun a hF => ?_
 refine wl (eL 93 19 7 (v := .int .i64 3) hF hM (by kernel_rfl) rfl rfl (by kernel_rfl) (by kernel_rfl) fun a w hF hM => ?_)
 refine wl (eP 94 (v0 := .bool (!decide (3 = 3))) (v := .bool false) hF (by kernel_rfl) (fun _ => by kernel_rfl) (nT (by omega)) fun a hF => ?_)
 refine sB 2 [(95, .bool false), (96, .int .i64 0)] hF (by kernel_rfl) fun a hF => ?_
 refine wl (eP 97 (v0 := .bool (!decide (0 = 0))) (v := .bool false) hF (by kernel_rfl) (fun _ => by kernel_rfl) (nT (by omega)) fun a hF => ?_)
 refine sB 1 [(98, .bool false)] hF (by kernel_rfl) fun a hF => ?_
 refine wpList_nil ?_
 refine hK46 _ _ ?_
 refine cF hF (by kernel_rfl) (by kernel_rfl) ?_
 refine wp_skip ?_
 refine hK42 _ _ ?_
 refine wp_region_lit ?_
 refine wl (eP 99 (v0 := .int .i64 (IntKind.i64.wrap (3 + 1))) (v := .int .i64 4) hF (by kernel_rfl) (fun _ => by kernel_rfl) (vi (by decide)) fun a hF => ?_)
 refine sB 1 [(74, .int .i64 4)] hF (by kernel_rfl) fun a hF => ?_
 refine wpList_nil ?_
 refine hK39 _ _ ?_
 refine rounds_k fun K47 hK47 => ?_
 refine wp_seq_k fun K48 hK48 => ?_
 refine wp_region_lit ?_
 refine wl (eP 75 (v0 := .bool (decide (4 < 15))) (v := .bool true) hF (by kernel_rfl) (fun _ => by kernel_rfl) (bT (by omega)) fun a hF => ?_)
 refine wpList_nil ?_
 refine hK48 _ _ ?_
 refine wp_seq_k fun K49 hK49 => ?_
 refine cT hF (by kernel_rfl) (by kernel_rfl) ?_
 refine wp_skip ?_
 refine hK49 _ _ ?_
 refine wp_seq_k fun K50 hK50 => ?_
 refine wp_block ?_
 refine wp_seq_k fun K51 hK51 => ?_
 refine wp_region_lit ?_
 refine sB 1 [(76, .pointer (some ⟨bb6, 32, none⟩))] hF (by kernel_rfl) fun a hF => ?_
 refine wl (eL 77 6 32 (v := .agg #[.int .i64 3, .int .i64 9, .int .i64 0, .int .i64 7, .int .i64 100, .int .i64 0, .int .i64 1199, .int .i64 3]) hF hM (by kernel_rfl) rfl rfl (by kernel_rfl) (by kernel_rfl) fun a w hF hM => ?_)
 refine wl (eN 4 23 (t := 64) (fun b => .pointer (some ⟨b, 0, none⟩)) #[.int .i64 0, .int .i64 0, .int .i64 0, .int .i64 0, .int .i64 0, .int .i64 0, .int .i64 0, .int .i64 0] hF hM (by kernel_rfl) (fun _ => by kernel_rfl) fun bb23 a w hF hM => ?_)
 refine wl (sStore (i := 23) (off := 0) (cs' := #[.int .i64 3, .int .i64 9, .int .i64 0, .int .i64 7, .int .i64 100, .int .i64 0, .int .i64 1199, .int .i64 3]) hF hM (by kernel_rfl) rfl rfl (by kernel_rfl) (by kernel_rfl) rfl (by kernel_rfl) fun w hM => ?_)
 refine wpList_nil ?_
 refine hK51 _ _ ?_
 refine wp_seq_k fun K52 hK52 => ?_
 refine wp_region_lit ?_
 refine wl (eL 79 5 0 (v := .agg #[.slice (some ⟨bb1, 0, none⟩) 2 2, .slice (some ⟨bb2, 0, none⟩) 1 1, .int .i64 251, .slice AA20 2 cc20, .slice AA21 1 cc21]) hF hM (by kernel_rfl) rfl rfl (by kernel_rfl) (by kernel_rfl) fun a w hF hM => ?_)
 refine sB 1 [(80, .pointer (some ⟨bb23, 0, none⟩))] hF (by kernel_rfl) fun a hF => ?_
 refine wl (eL 81 23 0 (v := .int .i64 3) hF hM (by kernel_rfl) rfl rfl (by kernel_rfl) (by kernel_rfl) fun a w hF hM => ?_)
 refine sB 1 [(82, .pointer (some ⟨bb23, 1, none⟩))] hF (by kernel_rfl) fun a hF => ?_
 refine wl (eL 83 23 1 (v := .agg #[.int .i64 9, .int .i64 0, .int .i64 7, .int .i64 100, .int .i64 0]) hF hM (by kernel_rfl) rfl rfl (by kernel_rfl) (by kernel_rfl) fun a w hF hM => ?_)
 refine sB 1 [(84, .pointer (some ⟨bb23, 6, none⟩))] hF (by kernel_rfl) fun a hF => ?_
 refine wl (eL 85 23 6 (v := .int .i64 1199) hF hM (by kernel_rfl) rfl rfl (by kernel_rfl) (by kernel_rfl) fun a w hF hM => ?_)
 refine wl (sRo2 24 25 (f := 17) (args := #[.agg #[.slice (some ⟨bb1, 0, none⟩) 2 2, .slice (some ⟨bb2, 0, none⟩) 1 1, .int .i64 251, .slice AA20 2 cc20, .slice AA21 1 cc21], .int .i64 3, .agg #[.int .i64 9, .int .i64 0, .int .i64 7, .int .i64 100, .int .i64 0], .int .i64 1199]) (mk := (fun x y => .tuple #[.agg #[.slice (some ⟨bb1, 0, none⟩) 2 2, .slice (some ⟨bb2, 0, none⟩) 1 1, .int .i64 1199, x, y], .int .i64 3, .int .i64 0])) (A3 := AA20) (A4 := AA21) (n3 := 2) (n4 := 1) (xs := (([0, -1]).map (Value.int .i64))) (ys := (flatR ([[0, 104857600, 104857600]]))) hF hM (by kernel_rfl) rfl (by decide) (by kernel_rfl) (fun _ => by kernel_rfl) (fiPass_ok (some ⟨bb1, 0, none⟩) [[3, 9, 7, 100, 1000, 200, 250], [3, 8, 6, 300, 0, 0, 0]] 2 (some ⟨bb2, 0, none⟩) [[5, 100, 1, 100, 1]] 1 251 AA20 ([0, -1]) cc20 AA21 ([[0, 104857600, 104857600]]) cc21 3 9 0 7 100 0 1199 w (hM.roRow (k := 1) rfl) (show WR 7 ([[3, 9, 7, 100, 1000, 200, 250], [3, 8, 6, 300, 0, 0, 0]] : List (List Int)) from by unfold WR; simp) (hM.roRow (k := 2) rfl) (show WR 5 ([[5, 100, 1, 100, 1]] : List (List Int)) from by unfold WR; simp) (hM.ok 20 _ rfl) (hM.ok 21 _ rfl) (show WR 3 ([[0, 104857600, 104857600]]) from by unfold WR; simp) (by kernel_rfl) ⟨(by omega), (by omega)⟩ (by kernel_rfl) ⟨(by omega), (by omega)⟩ (by kernel_rfl) rfl rfl) (.inr (hM.free (j := 20) rfl)) (.inr (hM.free (j := 21) rfl)) fun AA24 cc24 AA25 cc25 a w hF hM => ?_)
 refine sB 4 [(78, .tuple #[.agg #[.slice (some ⟨bb1, 0, none⟩) 2 2, .slice (some ⟨bb2, 0, none⟩) 1 1, .int .i64 1199, .slice AA24 2 cc24, .slice AA25 1 cc25], .int .i64 3, .int .i64 0]), (87, .agg #[.slice (some ⟨bb1, 0, none⟩) 2 2, .slice (some ⟨bb2, 0, none⟩) 1 1, .int .i64 1199, .slice AA24 2 cc24, .slice AA25 1 cc25]), (88, .int .i64 3), (89, .int .i64 0)] hF (by kernel_rfl) fun a hF => ?_
 refine wl (eN 5 26 (t := 27) (fun b => .pointer (some ⟨b, 0, none⟩)) #[.slice none 0 0, .slice none 0 0, .int .i64 0, .slice none 0 0, .slice none 0 0] hF hM (by kernel_rfl) (fun _ => by kernel_rfl) fun bb26 a w hF hM => ?_)
 refine wl (sStore (i := 26) (off := 0) (cs' := #[.slice (some ⟨bb1, 0, none⟩) 2 2, .slice (some ⟨bb2, 0, none⟩) 1 1, .int .i64 1199, .slice AA24 2 cc24, .slice AA25 1 cc25]) hF hM (by kernel_rfl) rfl rfl (by kernel_rfl) (by kernel_rfl) rfl (by kernel_rfl) fun w hM => ?_)
 refine sB 2 [(6, .int .i64 3), (7, .int .i64 0)] hF (by kernel_rfl) fun a hF => ?_
 refine wpList_nil ?_
 refine hK52 _ _ ?_
 refine wp_seq_k fun K53 hK53 => ?_
 refine wp_region_lit ?_
 refine wl (eL 90 26 0 (v := .agg #[.slice (some ⟨bb1, 0, none⟩) 2 2, .slice (some ⟨bb2, 0, none⟩) 1 1, .int .i64 1199, .slice AA24 2 cc24, .slice AA25 1 cc25]) hF hM (by kernel_rfl) rfl rfl (by kernel_rfl) (by kernel_rfl) fun a w hF hM => ?_)
 refine wl (sStore (i := 5) (off := 0) (cs' := #[.slice (some ⟨bb1, 0, none⟩) 2 2, .slice (some ⟨bb2, 0, none⟩) 1 1, .int .i64 1199, .slice AA24 2 cc24, .slice AA25 1 cc25]) hF hM (by kernel_rfl) rfl rfl (by kernel_rfl) (by kernel_rfl) rfl (by kernel_rfl) fun w hM => ?_)
 refine wpList_nil ?_
 refine hK53 _ _ ?_
 refine wp_seq_k fun K54 hK54 => ?_
 refine wp_region_lit ?_
 refine sB 2 [(91, .int .i64 3), (92, .pointer (some ⟨bb23, 7, none⟩))] hF (by kernel_rfl) fun a hF => ?_
 refine wl (eL 93 23 7 (v := .int .i64 3) hF hM (by kernel_rfl) rfl rfl (by kernel_rfl) (by kernel_rfl) fun a w hF hM => ?_)
 refine wl (eP 94 (v0 := .bool (!decide (3 = 3))) (v := .bool false) hF (by kernel_rfl) (fun _ => by kernel_rfl) (nT (by omega)) fun a hF => ?_)
 refine sB 2 [(95, .bool false), (96, .int .i64 0)] hF (by kernel_rfl) fun a hF => ?_
 refine wl (eP 97 (v0 := .bool (!decide (0 = 0))) (v := .bool false) hF (by kernel_rfl) (fun _ => by kernel_rfl) (nT (by omega)) fun a hF => ?_)
 refine sB 1 [(98, .bool false)] hF (by kernel_rfl) fun a hF => ?_
 refine wpList_nil ?_
 refine hK54 _ _ ?_
 refine cF hF (by kernel_rfl) (by kernel_rfl) ?_
 refine wp_skip ?_
 refine hK50 _ _ ?_
 refine wp_region_lit ?_
 refine wl (eP 99 (v0 := .int .i64 (IntKind.i64.wrap (4 + 1))) (v := .int .i64 5) hF (by kernel_rfl) (fun _ => by kernel_rfl) (vi (by decide)) fun a hF => ?_)
 refine sB 1 [(74, .int .i64 5)] hF (by kernel_rfl) fun a hF => ?_
 refine wpList_nil ?_
 refine hK47 _ _ ?_
 refine rounds_k fun K55 hK55 => ?_
 refine wp_seq_k fun K56 hK56 => ?_
 refine wp_region_lit ?_
 refine wl (eP 75 (v0 := .bool (decide (5 < 15))) (v := .bool true) hF (by kernel_rfl) (fun _ => by kernel_rfl) (bT (by omega)) fun a hF => ?_)
 refine wpList_nil ?_
 refine hK56 _ _ ?_
 refine wp_seq_k fun K57 hK57 => ?_
 refine cT hF (by kernel_rfl) (by kernel_rfl) ?_
 refine wp_skip ?_
 refine hK57 _ _ ?_
 refine wp_seq_k fun K58 hK58 => ?_
 refine wp_block ?_
 refine wp_seq_k fun K59 hK59 => ?_
 refine wp_region_lit ?_
 refine sB 1 [(76, .pointer (some ⟨bb6, 40, none⟩))] hF (by kernel_rfl) fun a hF => ?_
 refine wl (eL 77 6 40 (v := .agg #[.int .i64 3, .int .i64 9, .int .i64 0, .int .i64 7, .int .i64 100, .int .i64 0, .int .i64 1200, .int .i64 0]) hF hM (by kernel_rfl) rfl rfl (by kernel_rfl) (by kernel_rfl) fun a w hF hM => ?_)
 refine wl (eN 4 27 (t := 64) (fun b => .pointer (some ⟨b, 0, none⟩)) #[.int .i64 0, .int .i64 0, .int .i64 0, .int .i64 0, .int .i64 0, .int .i64 0, .int .i64 0, .int .i64 0] hF hM (by kernel_rfl) (fun _ => by kernel_rfl) fun bb27 a w hF hM => ?_)
 refine wl (sStore (i := 27) (off := 0) (cs' := #[.int .i64 3, .int .i64 9, .int .i64 0, .int .i64 7, .int .i64 100, .int .i64 0, .int .i64 1200, .int .i64 0]) hF hM (by kernel_rfl) rfl rfl (by kernel_rfl) (by kernel_rfl) rfl (by kernel_rfl) fun w hM => ?_)
 refine wpList_nil ?_
 refine hK59 _ _ ?_
 refine wp_seq_k fun K60 hK60 => ?_
 refine wp_region_lit ?_
 refine wl (eL 79 5 0 (v := .agg #[.slice (some ⟨bb1, 0, none⟩) 2 2, .slice (some ⟨bb2, 0, none⟩) 1 1, .int .i64 1199, .slice AA24 2 cc24, .slice AA25 1 cc25]) hF hM (by kernel_rfl) rfl rfl (by kernel_rfl) (by kernel_rfl) fun a w hF hM => ?_)
 refine sB 1 [(80, .pointer (some ⟨bb27, 0, none⟩))] hF (by kernel_rfl) fun a hF => ?_
 refine wl (eL 81 27 0 (v := .int .i64 3) hF hM (by kernel_rfl) rfl rfl (by kernel_rfl) (by kernel_rfl) fun a w hF hM => ?_)
 refine sB 1 [(82, .pointer (some ⟨bb27, 1, none⟩))] hF (by kernel_rfl) fun a hF => ?_
 refine wl (eL 83 27 1 (v := .agg #[.int .i64 9, .int .i64 0, .int .i64 7, .int .i64 100, .int .i64 0]) hF hM (by kernel_rfl) rfl rfl (by kernel_rfl) (by kernel_rfl) fun a w hF hM => ?_)
 refine sB 1 [(84, .pointer (some ⟨bb27, 6, none⟩))] hF (by kernel_rfl) fun a hF => ?_
 refine wl (eL 85 27 6 (v := .int .i64 1200) hF hM (by kernel_rfl) rfl rfl (by kernel_rfl) (by kernel_rfl) fun a w hF hM => ?_)
 refine wl (sRo2 28 29 (f := 17) (args := #[.agg #[.slice (some ⟨bb1, 0, none⟩) 2 2, .slice (some ⟨bb2, 0, none⟩) 1 1, .int .i64 1199, .slice AA24 2 cc24, .slice AA25 1 cc25], .int .i64 3, .agg #[.int .i64 9, .int .i64 0, .int .i64 7, .int .i64 100, .int .i64 0], .int .i64 1200]) (mk := (fun x y => .tuple #[.agg #[.slice (some ⟨bb1, 0, none⟩) 2 2, .slice (some ⟨bb2, 0, none⟩) 1 1, .int .i64 1200, x, y], .int .i64 0, .int .i64 0])) (A3 := AA24) (A4 := AA25) (n3 := 2) (n4 := 1) (xs := (([1, -1]).map (Value.int .i64))) (ys := (flatR ([[0, 104857600, 104857600]]))) hF hM (by kernel_rfl) rfl (by decide) (by kernel_rfl) (fun _ => by kernel_rfl) (fiPass_ok (some ⟨bb1, 0, none⟩) [[3, 9, 7, 100, 1000, 200, 250], [3, 8, 6, 300, 0, 0, 0]] 2 (some ⟨bb2, 0, none⟩) [[5, 100, 1, 100, 1]] 1 1199 AA24 ([0, -1]) cc24 AA25 ([[0, 104857600, 104857600]]) cc25 3 9 0 7 100 0 1200 w (hM.roRow (k := 1) rfl) (show WR 7 ([[3, 9, 7, 100, 1000, 200, 250], [3, 8, 6, 300, 0, 0, 0]] : List (List Int)) from by unfold WR; simp) (hM.roRow (k := 2) rfl) (show WR 5 ([[5, 100, 1, 100, 1]] : List (List Int)) from by unfold WR; simp) (hM.ok 24 _ rfl) (hM.ok 25 _ rfl) (show WR 3 ([[0, 104857600, 104857600]]) from by unfold WR; simp) (by kernel_rfl) ⟨(by omega), (by omega)⟩ (by kernel_rfl) ⟨(by omega), (by omega)⟩ (by kernel_rfl) rfl rfl) (.inr (hM.free (j := 24) rfl)) (.inr (hM.free (j := 25) rfl)) fun AA28 cc28 AA29 cc29 a w hF hM => ?_)
 refine sB 4 [(78, .tuple #[.agg #[.slice (some ⟨bb1, 0, none⟩) 2 2, .slice (some ⟨bb2, 0, none⟩) 1 1, .int .i64 1200, .slice AA28 2 cc28, .slice AA29 1 cc29], .int .i64 0, .int .i64 0]), (87, .agg #[.slice (some ⟨bb1, 0, none⟩) 2 2, .slice (some ⟨bb2, 0, none⟩) 1 1, .int .i64 1200, .slice AA28 2 cc28, .slice AA29 1 cc29]), (88, .int .i64 0), (89, .int .i64 0)] hF (by kernel_rfl) fun a hF => ?_
 refine wl (eN 5 30 (t := 27) (fun b => .pointer (some ⟨b, 0, none⟩)) #[.slice none 0 0, .slice none 0 0, .int .i64 0, .slice none 0 0, .slice none 0 0] hF hM (by kernel_rfl) (fun _ => by kernel_rfl) fun bb30 a w hF hM => ?_)
 refine wl (sStore (i := 30) (off := 0) (cs' := #[.slice (some ⟨bb1, 0, none⟩) 2 2, .slice (some ⟨bb2, 0, none⟩) 1 1, .int .i64 1200, .slice AA28 2 cc28, .slice AA29 1 cc29]) hF hM (by kernel_rfl) rfl rfl (by kernel_rfl) (by kernel_rfl) rfl (by kernel_rfl) fun w hM => ?_)
 refine sB 2 [(6, .int .i64 0), (7, .int .i64 0)] hF (by kernel_rfl) fun a hF => ?_
 refine wpList_nil ?_
 refine hK60 _ _ ?_
 refine wp_seq_k fun K61 hK61 => ?_
 refine wp_region_lit ?_
 refine wl (eL 90 30 0 (v := .agg #[.slice (some ⟨bb1, 0, none⟩) 2 2, .slice (some ⟨bb2, 0, none⟩) 1 1, .int .i64 1200, .slice AA28 2 cc28, .slice AA29 1 cc29]) hF hM (by kernel_rfl) rfl rfl (by kernel_rfl) (by kernel_rfl) fun a w hF hM => ?_)
 refine wl (sStore (i := 5) (off := 0) (cs' := #[.slice (some ⟨bb1, 0, none⟩) 2 2, .slice (some ⟨bb2, 0, none⟩) 1 1, .int .i64 1200, .slice AA28 2 cc28, .slice AA29 1 cc29]) hF hM (by kernel_rfl) rfl rfl (by kernel_rfl) (by kernel_rfl) rfl (by kernel_rfl) fun w hM => ?_)
 refine wpList_nil ?_
 refine hK61 _ _ ?_
 refine wp_seq_k fun K62 hK62 => ?_
 refine wp_region_lit ?_
 refine sB 2 [(91, .int .i64 0), (92, .pointer (some ⟨bb27, 7, none⟩))] hF (by kernel_rfl) fun a hF => ?_
 refine wl (eL 93 27 7 (v := .int .i64 0) hF hM (by kernel_rfl) rfl rfl (by kernel_rfl) (by kernel_rfl) fun a w hF hM => ?_)
 refine wl (eP 94 (v0 := .bool (!decide (0 = 0))) (v := .bool false) hF (by kernel_rfl) (fun _ => by kernel_rfl) (nT (by omega)) fun a hF => ?_)
 refine sB 2 [(95, .bool false), (96, .int .i64 0)] hF (by kernel_rfl) fun a hF => ?_
 refine wl (eP 97 (v0 := .bool (!decide (0 = 0))) (v := .bool false) hF (by kernel_rfl) (fun _ => by kernel_rfl) (nT (by omega)) fun a hF => ?_)
 refine sB 1 [(98, .bool false)] hF (by kernel_rfl) fun a hF => ?_
 refine wpList_nil ?_
 refine hK62 _ _ ?_
 refine cF hF (by kernel_rfl) (by kernel_rfl) ?_
 refine wp_skip ?_
 refine hK58 _ _ ?_
 refine wp_region_lit ?_
 refine wl (eP 99 (v0 := .int .i64 (IntKind.i64.wrap (5 + 1))) (v := .int .i64 6) hF (by kernel_rfl) (fun _ => by kernel_rfl) (vi (by decide)) fun a hF => ?_)
 refine sB 1 [(74, .int .i64 6)] hF (by kernel_rfl) fun a hF => ?_
 refine wpList_nil ?_
 refine hK55 _ _ ?_
 refine rounds_k fun K63 hK63 => ?_
 refine wp_seq_k fun K64 hK64 => ?_
 refine wp_region_lit ?_
 refine wl (eP 75 (v0 := .bool (decide (6 < 15))) (v := .bool true) hF (by kernel_rfl) (fun _ => by kernel_rfl) (bT (by omega)) fun a hF => ?_)
 refine wpList_nil ?_
 refine hK64 _ _ ?_
 refine wp_seq_k fun K65 hK65 => ?_
 refine cT hF (by kernel_rfl) (by kernel_rfl) ?_
 refine wp_skip ?_
 refine hK65 _ _ ?_
 refine wp_seq_k fun K66 hK66 => ?_
 refine wp_block ?_
 refine wp_seq_k fun K67 hK67 => ?_
 refine wp_region_lit ?_
 refine sB 1 [(76, .pointer (some ⟨bb6, 48, none⟩))] hF (by kernel_rfl) fun a hF => ?_
 refine wl (eL 77 6 48 (v := .agg #[.int .i64 4, .int .i64 9, .int .i64 0, .int .i64 7, .int .i64 100, .int .i64 0, .int .i64 2200, .int .i64 1]) hF hM (by kernel_rfl) rfl rfl (by kernel_rfl) (by kernel_rfl) fun a w hF hM => ?_)
 refine wl (eN 4 31 (t := 64) (fun b => .pointer (some ⟨b, 0, none⟩)) #[.int .i64 0, .int .i64 0, .int .i64 0, .int .i64 0, .int .i64 0, .int .i64 0, .int .i64 0, .int .i64 0] hF hM (by kernel_rfl) (fun _ => by kernel_rfl) fun bb31 a w hF hM => ?_)
 refine wl (sStore (i := 31) (off := 0) (cs' := #[.int .i64 4, .int .i64 9, .int .i64 0, .int .i64 7, .int .i64 100, .int .i64 0, .int .i64 2200, .int .i64 1]) hF hM (by kernel_rfl) rfl rfl (by kernel_rfl) (by kernel_rfl) rfl (by kernel_rfl) fun w hM => ?_)
 refine wpList_nil ?_
 refine hK67 _ _ ?_
 refine wp_seq_k fun K68 hK68 => ?_
 refine wp_region_lit ?_
 refine wl (eL 79 5 0 (v := .agg #[.slice (some ⟨bb1, 0, none⟩) 2 2, .slice (some ⟨bb2, 0, none⟩) 1 1, .int .i64 1200, .slice AA28 2 cc28, .slice AA29 1 cc29]) hF hM (by kernel_rfl) rfl rfl (by kernel_rfl) (by kernel_rfl) fun a w hF hM => ?_)
 refine sB 1 [(80, .pointer (some ⟨bb31, 0, none⟩))] hF (by kernel_rfl) fun a hF => ?_
 refine wl (eL 81 31 0 (v := .int .i64 4) hF hM (by kernel_rfl) rfl rfl (by kernel_rfl) (by kernel_rfl) fun a w hF hM => ?_)
 refine sB 1 [(82, .pointer (some ⟨bb31, 1, none⟩))] hF (by kernel_rfl) fun a hF => ?_
 refine wl (eL 83 31 1 (v := .agg #[.int .i64 9, .int .i64 0, .int .i64 7, .int .i64 100, .int .i64 0]) hF hM (by kernel_rfl) rfl rfl (by kernel_rfl) (by kernel_rfl) fun a w hF hM => ?_)
 refine sB 1 [(84, .pointer (some ⟨bb31, 6, none⟩))] hF (by kernel_rfl) fun a hF => ?_
 refine wl (eL 85 31 6 (v := .int .i64 2200) hF hM (by kernel_rfl) rfl rfl (by kernel_rfl) (by kernel_rfl) fun a w hF hM => ?_)
 refine wl (sRo2 32 33 (f := 17) (args := #[.agg #[.slice (some ⟨bb1, 0, none⟩) 2 2, .slice (some ⟨bb2, 0, none⟩) 1 1, .int .i64 1200, .slice AA28 2 cc28, .slice AA29 1 cc29], .int .i64 4, .agg #[.int .i64 9, .int .i64 0, .int .i64 7, .int .i64 100, .int .i64 0], .int .i64 2200]) (mk := (fun x y => .tuple #[.agg #[.slice (some ⟨bb1, 0, none⟩) 2 2, .slice (some ⟨bb2, 0, none⟩) 1 1, .int .i64 2200, x, y], .int .i64 1, .int .i64 0])) (A3 := AA28) (A4 := AA29) (n3 := 2) (n4 := 1) (xs := (([1, -1]).map (Value.int .i64))) (ys := (flatR ([[0, 104857600, 104857600]]))) hF hM (by kernel_rfl) rfl (by decide) (by kernel_rfl) (fun _ => by kernel_rfl) (fiPass_ok (some ⟨bb1, 0, none⟩) [[3, 9, 7, 100, 1000, 200, 250], [3, 8, 6, 300, 0, 0, 0]] 2 (some ⟨bb2, 0, none⟩) [[5, 100, 1, 100, 1]] 1 1200 AA28 ([1, -1]) cc28 AA29 ([[0, 104857600, 104857600]]) cc29 4 9 0 7 100 0 2200 w (hM.roRow (k := 1) rfl) (show WR 7 ([[3, 9, 7, 100, 1000, 200, 250], [3, 8, 6, 300, 0, 0, 0]] : List (List Int)) from by unfold WR; simp) (hM.roRow (k := 2) rfl) (show WR 5 ([[5, 100, 1, 100, 1]] : List (List Int)) from by unfold WR; simp) (hM.ok 28 _ rfl) (hM.ok 29 _ rfl) (show WR 3 ([[0, 104857600, 104857600]]) from by unfold WR; simp) (by kernel_rfl) ⟨(by omega), (by omega)⟩ (by kernel_rfl) ⟨(by omega), (by omega)⟩ (by kernel_rfl) rfl rfl) (.inr (hM.free (j := 28) rfl)) (.inr (hM.free (j := 29) rfl)) fun AA32 cc32 AA33 cc33 a w hF hM => ?_)
 refine sB 4 [(78, .tuple #[.agg #[.slice (some ⟨bb1, 0, none⟩) 2 2, .slice (some ⟨bb2, 0, none⟩) 1 1, .int .i64 2200, .slice AA32 2 cc32, .slice AA33 1 cc33], .int .i64 1, .int .i64 0]), (87, .agg #[.slice (some ⟨bb1, 0, none⟩) 2 2, .slice (some ⟨bb2, 0, none⟩) 1 1, .int .i64 2200, .slice AA32 2 cc32, .slice AA33 1 cc33]), (88, .int .i64 1), (89, .int .i64 0)] hF (by kernel_rfl) fun a hF => ?_
 refine wl (eN 5 34 (t := 27) (fun b => .pointer (some ⟨b, 0, none⟩)) #[.slice none 0 0, .slice none 0 0, .int .i64 0, .slice none 0 0, .slice none 0 0] hF hM (by kernel_rfl) (fun _ => by kernel_rfl) fun bb34 a w hF hM => ?_)
 refine wl (sStore (i := 34) (off := 0) (cs' := #[.slice (some ⟨bb1, 0, none⟩) 2 2, .slice (some ⟨bb2, 0, none⟩) 1 1, .int .i64 2200, .slice AA32 2 cc32, .slice AA33 1 cc33]) hF hM (by kernel_rfl) rfl rfl (by kernel_rfl) (by kernel_rfl) rfl (by kernel_rfl) fun w hM => ?_)
 refine sB 2 [(6, .int .i64 1), (7, .int .i64 0)] hF (by kernel_rfl) fun a hF => ?_
 refine wpList_nil ?_
 refine hK68 _ _ ?_
 refine wp_seq_k fun K69 hK69 => ?_
 refine wp_region_lit ?_
 refine wl (eL 90 34 0 (v := .agg #[.slice (some ⟨bb1, 0, none⟩) 2 2, .slice (some ⟨bb2, 0, none⟩) 1 1, .int .i64 2200, .slice AA32 2 cc32, .slice AA33 1 cc33]) hF hM (by kernel_rfl) rfl rfl (by kernel_rfl) (by kernel_rfl) fun a w hF hM => ?_)
 refine wl (sStore (i := 5) (off := 0) (cs' := #[.slice (some ⟨bb1, 0, none⟩) 2 2, .slice (some ⟨bb2, 0, none⟩) 1 1, .int .i64 2200, .slice AA32 2 cc32, .slice AA33 1 cc33]) hF hM (by kernel_rfl) rfl rfl (by kernel_rfl) (by kernel_rfl) rfl (by kernel_rfl) fun w hM => ?_)
 refine wpList_nil ?_
 refine hK69 _ _ ?_
 refine wp_seq_k fun K70 hK70 => ?_
 refine wp_region_lit ?_
 refine sB 2 [(91, .int .i64 1), (92, .pointer (some ⟨bb31, 7, none⟩))] hF (by kernel_rfl) fun a hF => ?_
 refine wl (eL 93 31 7 (v := .int .i64 1) hF hM (by kernel_rfl) rfl rfl (by kernel_rfl) (by kernel_rfl) fun a w hF hM => ?_)
 refine wl (eP 94 (v0 := .bool (!decide (1 = 1))) (v := .bool false) hF (by kernel_rfl) (fun _ => by kernel_rfl) (nT (by omega)) fun a hF => ?_)
 refine sB 2 [(95, .bool false), (96, .int .i64 0)] hF (by kernel_rfl) fun a hF => ?_
 refine wl (eP 97 (v0 := .bool (!decide (0 = 0))) (v := .bool false) hF (by kernel_rfl) (fun _ => by kernel_rfl) (nT (by omega)) fun a hF => ?_)
 refine sB 1 [(98, .bool false)] hF (by kernel_rfl) fun a hF => ?_
 refine wpList_nil ?_
 refine hK70 _ _ ?_
 refine cF hF (by kernel_rfl) (by kernel_rfl) ?_
 refine wp_skip ?_
 refine hK66 _ _ ?_
 refine wp_region_lit ?_
 refine wl (eP 99 (v0 := .int .i64 (IntKind.i64.wrap (6 + 1))) (v := .int .i64 7) hF (by kernel_rfl) (fun _ => by kernel_rfl) (vi (by decide)) fun a hF => ?_)
 refine sB 1 [(74, .int .i64 7)] hF (by kernel_rfl) fun a hF => ?_
 refine wpList_nil ?_
 refine hK63 _ _ ?_
 refine rounds_k fun K71 hK71 => ?_
 refine wp_seq_k fun K72 hK72 => ?_
 refine wp_region_lit ?_
 refine wl (eP 75 (v0 := .bool (decide (7 < 15))) (v := .bool true) hF (by kernel_rfl) (fun _ => by kernel_rfl) (bT (by omega)) fun a hF => ?_)
 refine wpList_nil ?_
 refine hK72 _ _ ?_
 refine wp_seq_k fun K73 hK73 => ?_
 refine cT hF (by kernel_rfl) (by kernel_rfl) ?_
 refine wp_skip ?_
 refine hK73 _ _ ?_
 refine wp_seq_k fun K74 hK74 => ?_
 refine wp_block ?_
 refine wp_seq_k fun K75 hK75 => ?_
 refine wp_region_lit ?_
 refine sB 1 [(76, .pointer (some ⟨bb6, 56, none⟩))] hF (by kernel_rfl) fun a hF => ?_
 refine wl (eL 77 6 56 (v := .agg #[.int .i64 3, .int .i64 9, .int .i64 0, .int .i64 7, .int .i64 100, .int .i64 0, .int .i64 2250, .int .i64 0]) hF hM (by kernel_rfl) rfl rfl (by kernel_rfl) (by kernel_rfl) fun a w hF hM => ?_)
 refine wl (eN 4 35 (t := 64) (fun b => .pointer (some ⟨b, 0, none⟩)) #[.int .i64 0, .int .i64 0, .int .i64 0, .int .i64 0, .int .i64 0, .int .i64 0, .int .i64 0, .int .i64 0] hF hM (by kernel_rfl) (fun _ => by kernel_rfl) fun bb35 a w hF hM => ?_)
 refine wl (sStore (i := 35) (off := 0) (cs' := #[.int .i64 3, .int .i64 9, .int .i64 0, .int .i64 7, .int .i64 100, .int .i64 0, .int .i64 2250, .int .i64 0]) hF hM (by kernel_rfl) rfl rfl (by kernel_rfl) (by kernel_rfl) rfl (by kernel_rfl) fun w hM => ?_)
 refine wpList_nil ?_
 refine hK75 _ _ ?_
 refine wp_seq_k fun K76 hK76 => ?_
 refine wp_region_lit ?_
 refine wl (eL 79 5 0 (v := .agg #[.slice (some ⟨bb1, 0, none⟩) 2 2, .slice (some ⟨bb2, 0, none⟩) 1 1, .int .i64 2200, .slice AA32 2 cc32, .slice AA33 1 cc33]) hF hM (by kernel_rfl) rfl rfl (by kernel_rfl) (by kernel_rfl) fun a w hF hM => ?_)
 refine sB 1 [(80, .pointer (some ⟨bb35, 0, none⟩))] hF (by kernel_rfl) fun a hF => ?_
 refine wl (eL 81 35 0 (v := .int .i64 3) hF hM (by kernel_rfl) rfl rfl (by kernel_rfl) (by kernel_rfl) fun a w hF hM => ?_)
 refine sB 1 [(82, .pointer (some ⟨bb35, 1, none⟩))] hF (by kernel_rfl) fun a hF => ?_
 refine wl (eL 83 35 1 (v := .agg #[.int .i64 9, .int .i64 0, .int .i64 7, .int .i64 100, .int .i64 0]) hF hM (by kernel_rfl) rfl rfl (by kernel_rfl) (by kernel_rfl) fun a w hF hM => ?_)
 refine sB 1 [(84, .pointer (some ⟨bb35, 6, none⟩))] hF (by kernel_rfl) fun a hF => ?_
 refine wl (eL 85 35 6 (v := .int .i64 2250) hF hM (by kernel_rfl) rfl rfl (by kernel_rfl) (by kernel_rfl) fun a w hF hM => ?_)
 refine wl (sRo2 36 37 (f := 17) (args := #[.agg #[.slice (some ⟨bb1, 0, none⟩) 2 2, .slice (some ⟨bb2, 0, none⟩) 1 1, .int .i64 2200, .slice AA32 2 cc32, .slice AA33 1 cc33], .int .i64 3, .agg #[.int .i64 9, .int .i64 0, .int .i64 7, .int .i64 100, .int .i64 0], .int .i64 2250]) (mk := (fun x y => .tuple #[.agg #[.slice (some ⟨bb1, 0, none⟩) 2 2, .slice (some ⟨bb2, 0, none⟩) 1 1, .int .i64 2250, x, y], .int .i64 0, .int .i64 0])) (A3 := AA32) (A4 := AA33) (n3 := 2) (n4 := 1) (xs := (([2, -1]).map (Value.int .i64))) (ys := (flatR ([[0, 104857600, 104857600]]))) hF hM (by kernel_rfl) rfl (by decide) (by kernel_rfl) (fun _ => by kernel_rfl) (fiPass_ok (some ⟨bb1, 0, none⟩) [[3, 9, 7, 100, 1000, 200, 250], [3, 8, 6, 300, 0, 0, 0]] 2 (some ⟨bb2, 0, none⟩) [[5, 100, 1, 100, 1]] 1 2200 AA32 ([1, -1]) cc32 AA33 ([[0, 104857600, 104857600]]) cc33 3 9 0 7 100 0 2250 w (hM.roRow (k := 1) rfl) (show WR 7 ([[3, 9, 7, 100, 1000, 200, 250], [3, 8, 6, 300, 0, 0, 0]] : List (List Int)) from by unfold WR; simp) (hM.roRow (k := 2) rfl) (show WR 5 ([[5, 100, 1, 100, 1]] : List (List Int)) from by unfold WR; simp) (hM.ok 32 _ rfl) (hM.ok 33 _ rfl) (show WR 3 ([[0, 104857600, 104857600]]) from by unfold WR; simp) (by kernel_rfl) ⟨(by omega), (by omega)⟩ (by kernel_rfl) ⟨(by omega), (by omega)⟩ (by kernel_rfl) rfl rfl) (.inr (hM.free (j := 32) rfl)) (.inr (hM.free (j := 33) rfl)) fun AA36 cc36 AA37 cc37 a w hF hM => ?_)
 refine sB 4 [(78, .tuple #[.agg #[.slice (some ⟨bb1, 0, none⟩) 2 2, .slice (some ⟨bb2, 0, none⟩) 1 1, .int .i64 2250, .slice AA36 2 cc36, .slice AA37 1 cc37], .int .i64 0, .int .i64 0]), (87, .agg #[.slice (some ⟨bb1, 0, none⟩) 2 2, .slice (some ⟨bb2, 0, none⟩) 1 1, .int .i64 2250, .slice AA36 2 cc36, .slice AA37 1 cc37]), (88, .int .i64 0), (89, .int .i64 0)] hF (by kernel_rfl) fun a hF => ?_
 refine wl (eN 5 38 (t := 27) (fun b => .pointer (some ⟨b, 0, none⟩)) #[.slice none 0 0, .slice none 0 0, .int .i64 0, .slice none 0 0, .slice none 0 0] hF hM (by kernel_rfl) (fun _ => by kernel_rfl) fun bb38 a w hF hM => ?_)
 refine wl (sStore (i := 38) (off := 0) (cs' := #[.slice (some ⟨bb1, 0, none⟩) 2 2, .slice (some ⟨bb2, 0, none⟩) 1 1, .int .i64 2250, .slice AA36 2 cc36, .slice AA37 1 cc37]) hF hM (by kernel_rfl) rfl rfl (by kernel_rfl) (by kernel_rfl) rfl (by kernel_rfl) fun w hM => ?_)
 refine sB 2 [(6, .int .i64 0), (7, .int .i64 0)] hF (by kernel_rfl) fun a hF => ?_
 refine wpList_nil ?_
 refine hK76 _ _ ?_
 refine wp_seq_k fun K77 hK77 => ?_
 refine wp_region_lit ?_
 refine wl (eL 90 38 0 (v := .agg #[.slice (some ⟨bb1, 0, none⟩) 2 2, .slice (some ⟨bb2, 0, none⟩) 1 1, .int .i64 2250, .slice AA36 2 cc36, .slice AA37 1 cc37]) hF hM (by kernel_rfl) rfl rfl (by kernel_rfl) (by kernel_rfl) fun a w hF hM => ?_)
 refine wl (sStore (i := 5) (off := 0) (cs' := #[.slice (some ⟨bb1, 0, none⟩) 2 2, .slice (some ⟨bb2, 0, none⟩) 1 1, .int .i64 2250, .slice AA36 2 cc36, .slice AA37 1 cc37]) hF hM (by kernel_rfl) rfl rfl (by kernel_rfl) (by kernel_rfl) rfl (by kernel_rfl) fun w hM => ?_)
 refine wpList_nil ?_
 refine hK77 _ _ ?_
 refine wp_seq_k fun K78 hK78 => ?_
 refine wp_region_lit ?_
 refine sB 2 [(91, .int .i64 0), (92, .pointer (some ⟨bb35, 7, none⟩))] hF (by kernel_rfl) fun a hF => ?_
 refine wl (eL 93 35 7 (v := .int .i64 0) hF hM (by kernel_rfl) rfl rfl (by kernel_rfl) (by kernel_rfl) fun a w hF hM => ?_)
 refine wl (eP 94 (v0 := .bool (!decide (0 = 0))) (v := .bool false) hF (by kernel_rfl) (fun _ => by kernel_rfl) (nT (by omega)) fun a hF => ?_)
 refine sB 2 [(95, .bool false), (96, .int .i64 0)] hF (by kernel_rfl) fun a hF => ?_
 refine wl (eP 97 (v0 := .bool (!decide (0 = 0))) (v := .bool false) hF (by kernel_rfl) (fun _ => by kernel_rfl) (nT (by omega)) fun a hF => ?_)
 refine sB 1 [(98, .bool false)] hF (by kernel_rfl) fun a hF => ?_
 refine wpList_nil ?_
 refine hK78 _ _ ?_
 refine cF hF (by kernel_rfl) (by kernel_rfl) ?_
 refine wp_skip ?_
 refine hK74 _ _ ?_
 refine wp_region_lit ?_
 refine wl (eP 99 (v0 := .int .i64 (IntKind.i64.wrap (7 + 1))) (v := .int .i64 8) hF (by kernel_rfl) (fun _ => by kernel_rfl) (vi (by decide)) fun a hF => ?_)
 refine sB 1 [(74, .int .i64 8)] hF (by kernel_rfl) fun a hF => ?_
 refine wpList_nil ?_
 refine hK71 _ _ ?_
 refine rounds_k fun K79 hK79 => ?_
 refine wp_seq_k fun K80 hK80 => ?_
 refine wp_region_lit ?_
 refine wl (eP 75 (v0 := .bool (decide (8 < 15))) (v := .bool true) hF (by kernel_rfl) (fun _ => by kernel_rfl) (bT (by omega)) fun a hF => ?_)
 refine wpList_nil ?_
 refine hK80 _ _ ?_
 refine wp_seq_k fun K81 hK81 => ?_
 refine cT hF (by kernel_rfl) (by kernel_rfl) ?_
 refine wp_skip ?_
 refine hK81 _ _ ?_
 refine wp_seq_k fun K82 hK82 => ?_
 refine wp_block ?_
 refine wp_seq_k fun K83 hK83 => ?_
 refine wp_region_lit ?_
 refine sB 1 [(76, .pointer (some ⟨bb6, 64, none⟩))] hF (by kernel_rfl) fun a hF => ?_
 refine wl (eL 77 6 64 (v := .agg #[.int .i64 3, .int .i64 9, .int .i64 0, .int .i64 7, .int .i64 99, .int .i64 0, .int .i64 3200, .int .i64 2]) hF hM (by kernel_rfl) rfl rfl (by kernel_rfl) (by kernel_rfl) fun a w hF hM => ?_)
 refine wl (eN 4 39 (t := 64) (fun b => .pointer (some ⟨b, 0, none⟩)) #[.int .i64 0, .int .i64 0, .int .i64 0, .int .i64 0, .int .i64 0, .int .i64 0, .int .i64 0, .int .i64 0] hF hM (by kernel_rfl) (fun _ => by kernel_rfl) fun bb39 a w hF hM => ?_)
 refine wl (sStore (i := 39) (off := 0) (cs' := #[.int .i64 3, .int .i64 9, .int .i64 0, .int .i64 7, .int .i64 99, .int .i64 0, .int .i64 3200, .int .i64 2]) hF hM (by kernel_rfl) rfl rfl (by kernel_rfl) (by kernel_rfl) rfl (by kernel_rfl) fun w hM => ?_)
 refine wpList_nil ?_
 refine hK83 _ _ ?_
 refine wp_seq_k fun K84 hK84 => ?_
 refine wp_region_lit ?_
 refine wl (eL 79 5 0 (v := .agg #[.slice (some ⟨bb1, 0, none⟩) 2 2, .slice (some ⟨bb2, 0, none⟩) 1 1, .int .i64 2250, .slice AA36 2 cc36, .slice AA37 1 cc37]) hF hM (by kernel_rfl) rfl rfl (by kernel_rfl) (by kernel_rfl) fun a w hF hM => ?_)
 refine sB 1 [(80, .pointer (some ⟨bb39, 0, none⟩))] hF (by kernel_rfl) fun a hF => ?_
 refine wl (eL 81 39 0 (v := .int .i64 3) hF hM (by kernel_rfl) rfl rfl (by kernel_rfl) (by kernel_rfl) fun a w hF hM => ?_)
 refine sB 1 [(82, .pointer (some ⟨bb39, 1, none⟩))] hF (by kernel_rfl) fun a hF => ?_
 refine wl (eL 83 39 1 (v := .agg #[.int .i64 9, .int .i64 0, .int .i64 7, .int .i64 99, .int .i64 0]) hF hM (by kernel_rfl) rfl rfl (by kernel_rfl) (by kernel_rfl) fun a w hF hM => ?_)
 refine sB 1 [(84, .pointer (some ⟨bb39, 6, none⟩))] hF (by kernel_rfl) fun a hF => ?_
 refine wl (eL 85 39 6 (v := .int .i64 3200) hF hM (by kernel_rfl) rfl rfl (by kernel_rfl) (by kernel_rfl) fun a w hF hM => ?_)
 refine wl (sRo2 40 41 (f := 17) (args := #[.agg #[.slice (some ⟨bb1, 0, none⟩) 2 2, .slice (some ⟨bb2, 0, none⟩) 1 1, .int .i64 2250, .slice AA36 2 cc36, .slice AA37 1 cc37], .int .i64 3, .agg #[.int .i64 9, .int .i64 0, .int .i64 7, .int .i64 99, .int .i64 0], .int .i64 3200]) (mk := (fun x y => .tuple #[.agg #[.slice (some ⟨bb1, 0, none⟩) 2 2, .slice (some ⟨bb2, 0, none⟩) 1 1, .int .i64 3200, x, y], .int .i64 2, .int .i64 0])) (A3 := AA36) (A4 := AA37) (n3 := 2) (n4 := 1) (xs := (([2, -1]).map (Value.int .i64))) (ys := (flatR ([[0, 104857600, 104857600]]))) hF hM (by kernel_rfl) rfl (by decide) (by kernel_rfl) (fun _ => by kernel_rfl) (fiPass_ok (some ⟨bb1, 0, none⟩) [[3, 9, 7, 100, 1000, 200, 250], [3, 8, 6, 300, 0, 0, 0]] 2 (some ⟨bb2, 0, none⟩) [[5, 100, 1, 100, 1]] 1 2250 AA36 ([2, -1]) cc36 AA37 ([[0, 104857600, 104857600]]) cc37 3 9 0 7 99 0 3200 w (hM.roRow (k := 1) rfl) (show WR 7 ([[3, 9, 7, 100, 1000, 200, 250], [3, 8, 6, 300, 0, 0, 0]] : List (List Int)) from by unfold WR; simp) (hM.roRow (k := 2) rfl) (show WR 5 ([[5, 100, 1, 100, 1]] : List (List Int)) from by unfold WR; simp) (hM.ok 36 _ rfl) (hM.ok 37 _ rfl) (show WR 3 ([[0, 104857600, 104857600]]) from by unfold WR; simp) (by kernel_rfl) ⟨(by omega), (by omega)⟩ (by kernel_rfl) ⟨(by omega), (by omega)⟩ (by kernel_rfl) rfl rfl) (.inr (hM.free (j := 36) rfl)) (.inr (hM.free (j := 37) rfl)) fun AA40 cc40 AA41 cc41 a w hF hM => ?_)
 refine sB 4 [(78, .tuple #[.agg #[.slice (some ⟨bb1, 0, none⟩) 2 2, .slice (some ⟨bb2, 0, none⟩) 1 1, .int .i64 3200, .slice AA40 2 cc40, .slice AA41 1 cc41], .int .i64 2, .int .i64 0]), (87, .agg #[.slice (some ⟨bb1, 0, none⟩) 2 2, .slice (some ⟨bb2, 0, none⟩) 1 1, .int .i64 3200, .slice AA40 2 cc40, .slice AA41 1 cc41]), (88, .int .i64 2), (89, .int .i64 0)] hF (by kernel_rfl) fun a hF => ?_
 refine wl (eN 5 42 (t := 27) (fun b => .pointer (some ⟨b, 0, none⟩)) #[.slice none 0 0, .slice none 0 0, .int .i64 0, .slice none 0 0, .slice none 0 0] hF hM (by kernel_rfl) (fun _ => by kernel_rfl) fun bb42 a w hF hM => ?_)
 refine wl (sStore (i := 42) (off := 0) (cs' := #[.slice (some ⟨bb1, 0, none⟩) 2 2, .slice (some ⟨bb2, 0, none⟩) 1 1, .int .i64 3200, .slice AA40 2 cc40, .slice AA41 1 cc41]) hF hM (by kernel_rfl) rfl rfl (by kernel_rfl) (by kernel_rfl) rfl (by kernel_rfl) fun w hM => ?_)
 refine sB 2 [(6, .int .i64 2), (7, .int .i64 0)] hF (by kernel_rfl) fun a hF => ?_
 refine wpList_nil ?_
 refine hK84 _ _ ?_
 refine wp_seq_k fun K85 hK85 => ?_
 refine wp_region_lit ?_
 refine wl (eL 90 42 0 (v := .agg #[.slice (some ⟨bb1, 0, none⟩) 2 2, .slice (some ⟨bb2, 0, none⟩) 1 1, .int .i64 3200, .slice AA40 2 cc40, .slice AA41 1 cc41]) hF hM (by kernel_rfl) rfl rfl (by kernel_rfl) (by kernel_rfl) fun a w hF hM => ?_)
 refine wl (sStore (i := 5) (off := 0) (cs' := #[.slice (some ⟨bb1, 0, none⟩) 2 2, .slice (some ⟨bb2, 0, none⟩) 1 1, .int .i64 3200, .slice AA40 2 cc40, .slice AA41 1 cc41]) hF hM (by kernel_rfl) rfl rfl (by kernel_rfl) (by kernel_rfl) rfl (by kernel_rfl) fun w hM => ?_)
 refine wpList_nil ?_
 refine hK85 _ _ ?_
 refine wp_seq_k fun K86 hK86 => ?_
 refine wp_region_lit ?_
 refine sB 2 [(91, .int .i64 2), (92, .pointer (some ⟨bb39, 7, none⟩))] hF (by kernel_rfl) fun a hF => ?_
 refine wl (eL 93 39 7 (v := .int .i64 2) hF hM (by kernel_rfl) rfl rfl (by kernel_rfl) (by kernel_rfl) fun a w hF hM => ?_)
 refine wl (eP 94 (v0 := .bool (!decide (2 = 2))) (v := .bool false) hF (by kernel_rfl) (fun _ => by kernel_rfl) (nT (by omega)) fun a hF => ?_)
 refine sB 2 [(95, .bool false), (96, .int .i64 0)] hF (by kernel_rfl) fun a hF => ?_
 refine wl (eP 97 (v0 := .bool (!decide (0 = 0))) (v := .bool false) hF (by kernel_rfl) (fun _ => by kernel_rfl) (nT (by omega)) fun a hF => ?_)
 refine sB 1 [(98, .bool false)] hF (by kernel_rfl) fun a hF => ?_
 refine wpList_nil ?_
 refine hK86 _ _ ?_
 refine cF hF (by kernel_rfl) (by kernel_rfl) ?_
 refine wp_skip ?_
 refine hK82 _ _ ?_
 refine wp_region_lit ?_
 refine wl (eP 99 (v0 := .int .i64 (IntKind.i64.wrap (8 + 1))) (v := .int .i64 9) hF (by kernel_rfl) (fun _ => by kernel_rfl) (vi (by decide)) fun a hF => ?_)
 refine sB 1 [(74, .int .i64 9)] hF (by kernel_rfl) fun a hF => ?_
 refine wpList_nil ?_
 refine hK79 _ _ ?_
 refine rounds_k fun K87 hK87 => ?_
 refine wp_seq_k fun K88 hK88 => ?_
 refine wp_region_lit ?_
 refine wl (eP 75 (v0 := .bool (decide (9 < 15))) (v := .bool true) hF (by kernel_rfl) (fun _ => by kernel_rfl) (bT (by omega)) fun a hF => ?_)
 refine wpList_nil ?_
 refine hK88 _ _ ?_
 refine wp_seq_k fun K89 hK89 => ?_
 refine cT hF (by kernel_rfl) (by kernel_rfl) ?_
 refine wp_skip ?_
 refine hK89 _ _ ?_
 refine wp_seq_k fun K90 hK90 => ?_
 refine wp_block ?_
 refine wp_seq_k fun K91 hK91 => ?_
 refine wp_region_lit ?_
 refine sB 1 [(76, .pointer (some ⟨bb6, 72, none⟩))] hF (by kernel_rfl) fun a hF => ?_
 refine wl (eL 77 6 72 (v := .agg #[.int .i64 3, .int .i64 9, .int .i64 0, .int .i64 6, .int .i64 99, .int .i64 0, .int .i64 3200, .int .i64 1]) hF hM (by kernel_rfl) rfl rfl (by kernel_rfl) (by kernel_rfl) fun a w hF hM => ?_)
 refine wl (eN 4 43 (t := 64) (fun b => .pointer (some ⟨b, 0, none⟩)) #[.int .i64 0, .int .i64 0, .int .i64 0, .int .i64 0, .int .i64 0, .int .i64 0, .int .i64 0, .int .i64 0] hF hM (by kernel_rfl) (fun _ => by kernel_rfl) fun bb43 a w hF hM => ?_)
 refine wl (sStore (i := 43) (off := 0) (cs' := #[.int .i64 3, .int .i64 9, .int .i64 0, .int .i64 6, .int .i64 99, .int .i64 0, .int .i64 3200, .int .i64 1]) hF hM (by kernel_rfl) rfl rfl (by kernel_rfl) (by kernel_rfl) rfl (by kernel_rfl) fun w hM => ?_)
 refine wpList_nil ?_
 refine hK91 _ _ ?_
 refine wp_seq_k fun K92 hK92 => ?_
 refine wp_region_lit ?_
 refine wl (eL 79 5 0 (v := .agg #[.slice (some ⟨bb1, 0, none⟩) 2 2, .slice (some ⟨bb2, 0, none⟩) 1 1, .int .i64 3200, .slice AA40 2 cc40, .slice AA41 1 cc41]) hF hM (by kernel_rfl) rfl rfl (by kernel_rfl) (by kernel_rfl) fun a w hF hM => ?_)
 refine sB 1 [(80, .pointer (some ⟨bb43, 0, none⟩))] hF (by kernel_rfl) fun a hF => ?_
 refine wl (eL 81 43 0 (v := .int .i64 3) hF hM (by kernel_rfl) rfl rfl (by kernel_rfl) (by kernel_rfl) fun a w hF hM => ?_)
 refine sB 1 [(82, .pointer (some ⟨bb43, 1, none⟩))] hF (by kernel_rfl) fun a hF => ?_
 refine wl (eL 83 43 1 (v := .agg #[.int .i64 9, .int .i64 0, .int .i64 6, .int .i64 99, .int .i64 0]) hF hM (by kernel_rfl) rfl rfl (by kernel_rfl) (by kernel_rfl) fun a w hF hM => ?_)
 refine sB 1 [(84, .pointer (some ⟨bb43, 6, none⟩))] hF (by kernel_rfl) fun a hF => ?_
 refine wl (eL 85 43 6 (v := .int .i64 3200) hF hM (by kernel_rfl) rfl rfl (by kernel_rfl) (by kernel_rfl) fun a w hF hM => ?_)
 refine wl (sRo2 44 45 (f := 17) (args := #[.agg #[.slice (some ⟨bb1, 0, none⟩) 2 2, .slice (some ⟨bb2, 0, none⟩) 1 1, .int .i64 3200, .slice AA40 2 cc40, .slice AA41 1 cc41], .int .i64 3, .agg #[.int .i64 9, .int .i64 0, .int .i64 6, .int .i64 99, .int .i64 0], .int .i64 3200]) (mk := (fun x y => .tuple #[.agg #[.slice (some ⟨bb1, 0, none⟩) 2 2, .slice (some ⟨bb2, 0, none⟩) 1 1, .int .i64 3200, x, y], .int .i64 1, .int .i64 0])) (A3 := AA40) (A4 := AA41) (n3 := 2) (n4 := 1) (xs := (([2, -1]).map (Value.int .i64))) (ys := (flatR ([[0, 104857600, 104857600]]))) hF hM (by kernel_rfl) rfl (by decide) (by kernel_rfl) (fun _ => by kernel_rfl) (fiPass_ok (some ⟨bb1, 0, none⟩) [[3, 9, 7, 100, 1000, 200, 250], [3, 8, 6, 300, 0, 0, 0]] 2 (some ⟨bb2, 0, none⟩) [[5, 100, 1, 100, 1]] 1 3200 AA40 ([2, -1]) cc40 AA41 ([[0, 104857600, 104857600]]) cc41 3 9 0 6 99 0 3200 w (hM.roRow (k := 1) rfl) (show WR 7 ([[3, 9, 7, 100, 1000, 200, 250], [3, 8, 6, 300, 0, 0, 0]] : List (List Int)) from by unfold WR; simp) (hM.roRow (k := 2) rfl) (show WR 5 ([[5, 100, 1, 100, 1]] : List (List Int)) from by unfold WR; simp) (hM.ok 40 _ rfl) (hM.ok 41 _ rfl) (show WR 3 ([[0, 104857600, 104857600]]) from by unfold WR; simp) (by kernel_rfl) ⟨(by omega), (by omega)⟩ (by kernel_rfl) ⟨(by omega), (by omega)⟩ (by kernel_rfl) rfl rfl) (.inr (hM.free (j := 40) rfl)) (.inr (hM.free (j := 41) rfl)) fun AA44 cc44 AA45 cc45 a w hF hM => ?_)
 refine sB 4 [(78, .tuple #[.agg #[.slice (some ⟨bb1, 0, none⟩) 2 2, .slice (some ⟨bb2, 0, none⟩) 1 1, .int .i64 3200, .slice AA44 2 cc44, .slice AA45 1 cc45], .int .i64 1, .int .i64 0]), (87, .agg #[.slice (some ⟨bb1, 0, none⟩) 2 2, .slice (some ⟨bb2, 0, none⟩) 1 1, .int .i64 3200, .slice AA44 2 cc44, .slice AA45 1 cc45]), (88, .int .i64 1), (89, .int .i64 0)] hF (by kernel_rfl) fun a hF => ?_
 refine wl (eN 5 46 (t := 27) (fun b => .pointer (some ⟨b, 0, none⟩)) #[.slice none 0 0, .slice none 0 0, .int .i64 0, .slice none 0 0, .slice none 0 0] hF hM (by kernel_rfl) (fun _ => by kernel_rfl) fun bb46 a w hF hM => ?_)
 refine wl (sStore (i := 46) (off := 0) (cs' := #[.slice (some ⟨bb1, 0, none⟩) 2 2, .slice (some ⟨bb2, 0, none⟩) 1 1, .int .i64 3200, .slice AA44 2 cc44, .slice AA45 1 cc45]) hF hM (by kernel_rfl) rfl rfl (by kernel_rfl) (by kernel_rfl) rfl (by kernel_rfl) fun w hM => ?_)
 refine sB 2 [(6, .int .i64 1), (7, .int .i64 0)] hF (by kernel_rfl) fun a hF => ?_
 refine wpList_nil ?_
 refine hK92 _ _ ?_
 refine wp_seq_k fun K93 hK93 => ?_
 refine wp_region_lit ?_
 refine wl (eL 90 46 0 (v := .agg #[.slice (some ⟨bb1, 0, none⟩) 2 2, .slice (some ⟨bb2, 0, none⟩) 1 1, .int .i64 3200, .slice AA44 2 cc44, .slice AA45 1 cc45]) hF hM (by kernel_rfl) rfl rfl (by kernel_rfl) (by kernel_rfl) fun a w hF hM => ?_)
 refine wl (sStore (i := 5) (off := 0) (cs' := #[.slice (some ⟨bb1, 0, none⟩) 2 2, .slice (some ⟨bb2, 0, none⟩) 1 1, .int .i64 3200, .slice AA44 2 cc44, .slice AA45 1 cc45]) hF hM (by kernel_rfl) rfl rfl (by kernel_rfl) (by kernel_rfl) rfl (by kernel_rfl) fun w hM => ?_)
 refine wpList_nil ?_
 refine hK93 _ _ ?_
 refine wp_seq_k fun K94 hK94 => ?_
 refine wp_region_lit ?_
 refine sB 2 [(91, .int .i64 1), (92, .pointer (some ⟨bb43, 7, none⟩))] hF (by kernel_rfl) fun a hF => ?_
 refine wl (eL 93 43 7 (v := .int .i64 1) hF hM (by kernel_rfl) rfl rfl (by kernel_rfl) (by kernel_rfl) fun a w hF hM => ?_)
 refine wl (eP 94 (v0 := .bool (!decide (1 = 1))) (v := .bool false) hF (by kernel_rfl) (fun _ => by kernel_rfl) (nT (by omega)) fun a hF => ?_)
 refine sB 2 [(95, .bool false), (96, .int .i64 0)] hF (by kernel_rfl) fun a hF => ?_
 refine wl (eP 97 (v0 := .bool (!decide (0 = 0))) (v := .bool false) hF (by kernel_rfl) (fun _ => by kernel_rfl) (nT (by omega)) fun a hF => ?_)
 refine sB 1 [(98, .bool false)] hF (by kernel_rfl) fun a hF => ?_
 refine wpList_nil ?_
 refine hK94 _ _ ?_
 refine cF hF (by kernel_rfl) (by kernel_rfl) ?_
 refine wp_skip ?_
 refine hK90 _ _ ?_
 refine wp_region_lit ?_
 refine wl (eP 99 (v0 := .int .i64 (IntKind.i64.wrap (9 + 1))) (v := .int .i64 10) hF (by kernel_rfl) (fun _ => by kernel_rfl) (vi (by decide)) fun a hF => ?_)
 refine sB 1 [(74, .int .i64 10)] hF (by kernel_rfl) fun a hF => ?_
 refine wpList_nil ?_
 refine hK87 _ _ ?_
 refine rounds_k fun K95 hK95 => ?_
 refine wp_seq_k fun K96 hK96 => ?_
 refine wp_region_lit ?_
 refine wl (eP 75 (v0 := .bool (decide (10 < 15))) (v := .bool true) hF (by kernel_rfl) (fun _ => by kernel_rfl) (bT (by omega)) fun a hF => ?_)
 refine wpList_nil ?_
 refine hK96 _ _ ?_
 refine wp_seq_k fun K97 hK97 => ?_
 refine cT hF (by kernel_rfl) (by kernel_rfl) ?_
 refine wp_skip ?_
 refine hK97 _ _ ?_
 refine wp_seq_k fun K98 hK98 => ?_
 refine wp_block ?_
 refine wp_seq_k fun K99 hK99 => ?_
 refine wp_region_lit ?_
 refine sB 1 [(76, .pointer (some ⟨bb6, 80, none⟩))] hF (by kernel_rfl) fun a hF => ?_
 refine wl (eL 77 6 80 (v := .agg #[.int .i64 3, .int .i64 8, .int .i64 0, .int .i64 6, .int .i64 300, .int .i64 0, .int .i64 3200, .int .i64 0]) hF hM (by kernel_rfl) rfl rfl (by kernel_rfl) (by kernel_rfl) fun a w hF hM => ?_)
 refine wl (eN 4 47 (t := 64) (fun b => .pointer (some ⟨b, 0, none⟩)) #[.int .i64 0, .int .i64 0, .int .i64 0, .int .i64 0, .int .i64 0, .int .i64 0, .int .i64 0, .int .i64 0] hF hM (by kernel_rfl) (fun _ => by kernel_rfl) fun bb47 a w hF hM => ?_)
 refine wl (sStore (i := 47) (off := 0) (cs' := #[.int .i64 3, .int .i64 8, .int .i64 0, .int .i64 6, .int .i64 300, .int .i64 0, .int .i64 3200, .int .i64 0]) hF hM (by kernel_rfl) rfl rfl (by kernel_rfl) (by kernel_rfl) rfl (by kernel_rfl) fun w hM => ?_)
 refine wpList_nil ?_
 refine hK99 _ _ ?_
 refine wp_seq_k fun K100 hK100 => ?_
 refine wp_region_lit ?_
 refine wl (eL 79 5 0 (v := .agg #[.slice (some ⟨bb1, 0, none⟩) 2 2, .slice (some ⟨bb2, 0, none⟩) 1 1, .int .i64 3200, .slice AA44 2 cc44, .slice AA45 1 cc45]) hF hM (by kernel_rfl) rfl rfl (by kernel_rfl) (by kernel_rfl) fun a w hF hM => ?_)
 refine sB 1 [(80, .pointer (some ⟨bb47, 0, none⟩))] hF (by kernel_rfl) fun a hF => ?_
 refine wl (eL 81 47 0 (v := .int .i64 3) hF hM (by kernel_rfl) rfl rfl (by kernel_rfl) (by kernel_rfl) fun a w hF hM => ?_)
 refine sB 1 [(82, .pointer (some ⟨bb47, 1, none⟩))] hF (by kernel_rfl) fun a hF => ?_
 refine wl (eL 83 47 1 (v := .agg #[.int .i64 8, .int .i64 0, .int .i64 6, .int .i64 300, .int .i64 0]) hF hM (by kernel_rfl) rfl rfl (by kernel_rfl) (by kernel_rfl) fun a w hF hM => ?_)
 refine sB 1 [(84, .pointer (some ⟨bb47, 6, none⟩))] hF (by kernel_rfl) fun a hF => ?_
 refine wl (eL 85 47 6 (v := .int .i64 3200) hF hM (by kernel_rfl) rfl rfl (by kernel_rfl) (by kernel_rfl) fun a w hF hM => ?_)
 refine wl (sRo2 48 49 (f := 17) (args := #[.agg #[.slice (some ⟨bb1, 0, none⟩) 2 2, .slice (some ⟨bb2, 0, none⟩) 1 1, .int .i64 3200, .slice AA44 2 cc44, .slice AA45 1 cc45], .int .i64 3, .agg #[.int .i64 8, .int .i64 0, .int .i64 6, .int .i64 300, .int .i64 0], .int .i64 3200]) (mk := (fun x y => .tuple #[.agg #[.slice (some ⟨bb1, 0, none⟩) 2 2, .slice (some ⟨bb2, 0, none⟩) 1 1, .int .i64 3200, x, y], .int .i64 0, .int .i64 0])) (A3 := AA44) (A4 := AA45) (n3 := 2) (n4 := 1) (xs := (([2, -1]).map (Value.int .i64))) (ys := (flatR ([[0, 104857600, 104857600]]))) hF hM (by kernel_rfl) rfl (by decide) (by kernel_rfl) (fun _ => by kernel_rfl) (fiPass_ok (some ⟨bb1, 0, none⟩) [[3, 9, 7, 100, 1000, 200, 250], [3, 8, 6, 300, 0, 0, 0]] 2 (some ⟨bb2, 0, none⟩) [[5, 100, 1, 100, 1]] 1 3200 AA44 ([2, -1]) cc44 AA45 ([[0, 104857600, 104857600]]) cc45 3 8 0 6 300 0 3200 w (hM.roRow (k := 1) rfl) (show WR 7 ([[3, 9, 7, 100, 1000, 200, 250], [3, 8, 6, 300, 0, 0, 0]] : List (List Int)) from by unfold WR; simp) (hM.roRow (k := 2) rfl) (show WR 5 ([[5, 100, 1, 100, 1]] : List (List Int)) from by unfold WR; simp) (hM.ok 44 _ rfl) (hM.ok 45 _ rfl) (show WR 3 ([[0, 104857600, 104857600]]) from by unfold WR; simp) (by kernel_rfl) ⟨(by omega), (by omega)⟩ (by kernel_rfl) ⟨(by omega), (by omega)⟩ (by kernel_rfl) rfl rfl) (.inr (hM.free (j := 44) rfl)) (.inr (hM.free (j := 45) rfl)) fun AA48 cc48 AA49 cc49 a w hF hM => ?_)
 refine sB 4 [(78, .tuple #[.agg #[.slice (some ⟨bb1, 0, none⟩) 2 2, .slice (some ⟨bb2, 0, none⟩) 1 1, .int .i64 3200, .slice AA48 2 cc48, .slice AA49 1 cc49], .int .i64 0, .int .i64 0]), (87, .agg #[.slice (some ⟨bb1, 0, none⟩) 2 2, .slice (some ⟨bb2, 0, none⟩) 1 1, .int .i64 3200, .slice AA48 2 cc48, .slice AA49 1 cc49]), (88, .int .i64 0), (89, .int .i64 0)] hF (by kernel_rfl) fun a hF => ?_
 refine wl (eN 5 50 (t := 27) (fun b => .pointer (some ⟨b, 0, none⟩)) #[.slice none 0 0, .slice none 0 0, .int .i64 0, .slice none 0 0, .slice none 0 0] hF hM (by kernel_rfl) (fun _ => by kernel_rfl) fun bb50 a w hF hM => ?_)
 refine wl (sStore (i := 50) (off := 0) (cs' := #[.slice (some ⟨bb1, 0, none⟩) 2 2, .slice (some ⟨bb2, 0, none⟩) 1 1, .int .i64 3200, .slice AA48 2 cc48, .slice AA49 1 cc49]) hF hM (by kernel_rfl) rfl rfl (by kernel_rfl) (by kernel_rfl) rfl (by kernel_rfl) fun w hM => ?_)
 refine sB 2 [(6, .int .i64 0), (7, .int .i64 0)] hF (by kernel_rfl) fun a hF => ?_
 refine wpList_nil ?_
 refine hK100 _ _ ?_
 refine wp_seq_k fun K101 hK101 => ?_
 refine wp_region_lit ?_
 refine wl (eL 90 50 0 (v := .agg #[.slice (some ⟨bb1, 0, none⟩) 2 2, .slice (some ⟨bb2, 0, none⟩) 1 1, .int .i64 3200, .slice AA48 2 cc48, .slice AA49 1 cc49]) hF hM (by kernel_rfl) rfl rfl (by kernel_rfl) (by kernel_rfl) fun a w hF hM => ?_)
 refine wl (sStore (i := 5) (off := 0) (cs' := #[.slice (some ⟨bb1, 0, none⟩) 2 2, .slice (some ⟨bb2, 0, none⟩) 1 1, .int .i64 3200, .slice AA48 2 cc48, .slice AA49 1 cc49]) hF hM (by kernel_rfl) rfl rfl (by kernel_rfl) (by kernel_rfl) rfl (by kernel_rfl) fun w hM => ?_)
 refine wpList_nil ?_
 refine hK101 _ _ ?_
 refine wp_seq_k fun K102 hK102 => ?_
 refine wp_region_lit ?_
 refine sB 2 [(91, .int .i64 0), (92, .pointer (some ⟨bb47, 7, none⟩))] hF (by kernel_rfl) fun a hF => ?_
 refine wl (eL 93 47 7 (v := .int .i64 0) hF hM (by kernel_rfl) rfl rfl (by kernel_rfl) (by kernel_rfl) fun a w hF hM => ?_)
 refine wl (eP 94 (v0 := .bool (!decide (0 = 0))) (v := .bool false) hF (by kernel_rfl) (fun _ => by kernel_rfl) (nT (by omega)) fun a hF => ?_)
 refine sB 2 [(95, .bool false), (96, .int .i64 0)] hF (by kernel_rfl) fun a hF => ?_
 refine wl (eP 97 (v0 := .bool (!decide (0 = 0))) (v := .bool false) hF (by kernel_rfl) (fun _ => by kernel_rfl) (nT (by omega)) fun a hF => ?_)
 refine sB 1 [(98, .bool false)] hF (by kernel_rfl) fun a hF => ?_
 refine wpList_nil ?_
 refine hK102 _ _ ?_
 refine cF hF (by kernel_rfl) (by kernel_rfl) ?_
 refine wp_skip ?_
 refine hK98 _ _ ?_
 refine wp_region_lit ?_
 refine wl (eP 99 (v0 := .int .i64 (IntKind.i64.wrap (10 + 1))) (v := .int .i64 11) hF (by kernel_rfl) (fun _ => by kernel_rfl) (vi (by decide)) fun a hF => ?_)
 refine sB 1 [(74, .int .i64 11)] hF (by kernel_rfl) fun a hF => ?_
 refine wpList_nil ?_
 refine hK95 _ _ ?_
 refine rounds_k fun K103 hK103 => ?_
 refine wp_seq_k fun K104 hK104 => ?_
 refine wp_region_lit ?_
 refine wl (eP 75 (v0 := .bool (decide (11 < 15))) (v := .bool true) hF (by kernel_rfl) (fun _ => by kernel_rfl) (bT (by omega)) fun a hF => ?_)
 refine wpList_nil ?_
 refine hK104 _ _ ?_
 refine wp_seq_k fun K105 hK105 => ?_
 refine cT hF (by kernel_rfl) (by kernel_rfl) ?_
 refine wp_skip ?_
 refine hK105 _ _ ?_
 refine wp_seq_k fun K106 hK106 => ?_
 refine wp_block ?_
 refine wp_seq_k fun K107 hK107 => ?_
 refine wp_region_lit ?_
 refine sB 1 [(76, .pointer (some ⟨bb6, 88, none⟩))] hF (by kernel_rfl) fun a hF => ?_
 refine wl (eL 77 6 88 (v := .agg #[.int .i64 3, .int .i64 8, .int .i64 0, .int .i64 6, .int .i64 301, .int .i64 0, .int .i64 3200, .int .i64 2]) hF hM (by kernel_rfl) rfl rfl (by kernel_rfl) (by kernel_rfl) fun a w hF hM => ?_)
 refine wl (eN 4 51 (t := 64) (fun b => .pointer (some ⟨b, 0, none⟩)) #[.int .i64 0, .int .i64 0, .int .i64 0, .int .i64 0, .int .i64 0, .int .i64 0, .int .i64 0, .int .i64 0] hF hM (by kernel_rfl) (fun _ => by kernel_rfl) fun bb51 a w hF hM => ?_)
 refine wl (sStore (i := 51) (off := 0) (cs' := #[.int .i64 3, .int .i64 8, .int .i64 0, .int .i64 6, .int .i64 301, .int .i64 0, .int .i64 3200, .int .i64 2]) hF hM (by kernel_rfl) rfl rfl (by kernel_rfl) (by kernel_rfl) rfl (by kernel_rfl) fun w hM => ?_)
 refine wpList_nil ?_
 refine hK107 _ _ ?_
 refine wp_seq_k fun K108 hK108 => ?_
 refine wp_region_lit ?_
 refine wl (eL 79 5 0 (v := .agg #[.slice (some ⟨bb1, 0, none⟩) 2 2, .slice (some ⟨bb2, 0, none⟩) 1 1, .int .i64 3200, .slice AA48 2 cc48, .slice AA49 1 cc49]) hF hM (by kernel_rfl) rfl rfl (by kernel_rfl) (by kernel_rfl) fun a w hF hM => ?_)
 refine sB 1 [(80, .pointer (some ⟨bb51, 0, none⟩))] hF (by kernel_rfl) fun a hF => ?_
 refine wl (eL 81 51 0 (v := .int .i64 3) hF hM (by kernel_rfl) rfl rfl (by kernel_rfl) (by kernel_rfl) fun a w hF hM => ?_)
 refine sB 1 [(82, .pointer (some ⟨bb51, 1, none⟩))] hF (by kernel_rfl) fun a hF => ?_
 refine wl (eL 83 51 1 (v := .agg #[.int .i64 8, .int .i64 0, .int .i64 6, .int .i64 301, .int .i64 0]) hF hM (by kernel_rfl) rfl rfl (by kernel_rfl) (by kernel_rfl) fun a w hF hM => ?_)
 refine sB 1 [(84, .pointer (some ⟨bb51, 6, none⟩))] hF (by kernel_rfl) fun a hF => ?_
 refine wl (eL 85 51 6 (v := .int .i64 3200) hF hM (by kernel_rfl) rfl rfl (by kernel_rfl) (by kernel_rfl) fun a w hF hM => ?_)
 refine wl (sRo2 52 53 (f := 17) (args := #[.agg #[.slice (some ⟨bb1, 0, none⟩) 2 2, .slice (some ⟨bb2, 0, none⟩) 1 1, .int .i64 3200, .slice AA48 2 cc48, .slice AA49 1 cc49], .int .i64 3, .agg #[.int .i64 8, .int .i64 0, .int .i64 6, .int .i64 301, .int .i64 0], .int .i64 3200]) (mk := (fun x y => .tuple #[.agg #[.slice (some ⟨bb1, 0, none⟩) 2 2, .slice (some ⟨bb2, 0, none⟩) 1 1, .int .i64 3200, x, y], .int .i64 2, .int .i64 0])) (A3 := AA48) (A4 := AA49) (n3 := 2) (n4 := 1) (xs := (([2, -1]).map (Value.int .i64))) (ys := (flatR ([[0, 104857600, 104857600]]))) hF hM (by kernel_rfl) rfl (by decide) (by kernel_rfl) (fun _ => by kernel_rfl) (fiPass_ok (some ⟨bb1, 0, none⟩) [[3, 9, 7, 100, 1000, 200, 250], [3, 8, 6, 300, 0, 0, 0]] 2 (some ⟨bb2, 0, none⟩) [[5, 100, 1, 100, 1]] 1 3200 AA48 ([2, -1]) cc48 AA49 ([[0, 104857600, 104857600]]) cc49 3 8 0 6 301 0 3200 w (hM.roRow (k := 1) rfl) (show WR 7 ([[3, 9, 7, 100, 1000, 200, 250], [3, 8, 6, 300, 0, 0, 0]] : List (List Int)) from by unfold WR; simp) (hM.roRow (k := 2) rfl) (show WR 5 ([[5, 100, 1, 100, 1]] : List (List Int)) from by unfold WR; simp) (hM.ok 48 _ rfl) (hM.ok 49 _ rfl) (show WR 3 ([[0, 104857600, 104857600]]) from by unfold WR; simp) (by kernel_rfl) ⟨(by omega), (by omega)⟩ (by kernel_rfl) ⟨(by omega), (by omega)⟩ (by kernel_rfl) rfl rfl) (.inr (hM.free (j := 48) rfl)) (.inr (hM.free (j := 49) rfl)) fun AA52 cc52 AA53 cc53 a w hF hM => ?_)
 refine sB 4 [(78, .tuple #[.agg #[.slice (some ⟨bb1, 0, none⟩) 2 2, .slice (some ⟨bb2, 0, none⟩) 1 1, .int .i64 3200, .slice AA52 2 cc52, .slice AA53 1 cc53], .int .i64 2, .int .i64 0]), (87, .agg #[.slice (some ⟨bb1, 0, none⟩) 2 2, .slice (some ⟨bb2, 0, none⟩) 1 1, .int .i64 3200, .slice AA52 2 cc52, .slice AA53 1 cc53]), (88, .int .i64 2), (89, .int .i64 0)] hF (by kernel_rfl) fun a hF => ?_
 refine wl (eN 5 54 (t := 27) (fun b => .pointer (some ⟨b, 0, none⟩)) #[.slice none 0 0, .slice none 0 0, .int .i64 0, .slice none 0 0, .slice none 0 0] hF hM (by kernel_rfl) (fun _ => by kernel_rfl) fun bb54 a w hF hM => ?_)
 refine wl (sStore (i := 54) (off := 0) (cs' := #[.slice (some ⟨bb1, 0, none⟩) 2 2, .slice (some ⟨bb2, 0, none⟩) 1 1, .int .i64 3200, .slice AA52 2 cc52, .slice AA53 1 cc53]) hF hM (by kernel_rfl) rfl rfl (by kernel_rfl) (by kernel_rfl) rfl (by kernel_rfl) fun w hM => ?_)
 refine sB 2 [(6, .int .i64 2), (7, .int .i64 0)] hF (by kernel_rfl) fun a hF => ?_
 refine wpList_nil ?_
 refine hK108 _ _ ?_
 refine wp_seq_k fun K109 hK109 => ?_
 refine wp_region_lit ?_
 refine wl (eL 90 54 0 (v := .agg #[.slice (some ⟨bb1, 0, none⟩) 2 2, .slice (some ⟨bb2, 0, none⟩) 1 1, .int .i64 3200, .slice AA52 2 cc52, .slice AA53 1 cc53]) hF hM (by kernel_rfl) rfl rfl (by kernel_rfl) (by kernel_rfl) fun a w hF hM => ?_)
 refine wl (sStore (i := 5) (off := 0) (cs' := #[.slice (some ⟨bb1, 0, none⟩) 2 2, .slice (some ⟨bb2, 0, none⟩) 1 1, .int .i64 3200, .slice AA52 2 cc52, .slice AA53 1 cc53]) hF hM (by kernel_rfl) rfl rfl (by kernel_rfl) (by kernel_rfl) rfl (by kernel_rfl) fun w hM => ?_)
 refine wpList_nil ?_
 refine hK109 _ _ ?_
 refine wp_seq_k fun K110 hK110 => ?_
 refine wp_region_lit ?_
 refine sB 2 [(91, .int .i64 2), (92, .pointer (some ⟨bb51, 7, none⟩))] hF (by kernel_rfl) fun a hF => ?_
 refine wl (eL 93 51 7 (v := .int .i64 2) hF hM (by kernel_rfl) rfl rfl (by kernel_rfl) (by kernel_rfl) fun a w hF hM => ?_)
 refine wl (eP 94 (v0 := .bool (!decide (2 = 2))) (v := .bool false) hF (by kernel_rfl) (fun _ => by kernel_rfl) (nT (by omega)) fun a hF => ?_)
 refine sB 2 [(95, .bool false), (96, .int .i64 0)] hF (by kernel_rfl) fun a hF => ?_
 refine wl (eP 97 (v0 := .bool (!decide (0 = 0))) (v := .bool false) hF (by kernel_rfl) (fun _ => by kernel_rfl) (nT (by omega)) fun a hF => ?_)
 refine sB 1 [(98, .bool false)] hF (by kernel_rfl) fun a hF => ?_
 refine wpList_nil ?_
 refine hK110 _ _ ?_
 refine cF hF (by kernel_rfl) (by kernel_rfl) ?_
 refine wp_skip ?_
 refine hK106 _ _ ?_
 refine wp_region_lit ?_
 refine wl (eP 99 (v0 := .int .i64 (IntKind.i64.wrap (11 + 1))) (v := .int .i64 12) hF (by kernel_rfl) (fun _ => by kernel_rfl) (vi (by decide)) fun a hF => ?_)
 refine sB 1 [(74, .int .i64 12)] hF (by kernel_rfl) fun a hF => ?_
 refine wpList_nil ?_
 refine hK103 _ _ ?_
 refine rounds_k fun K111 hK111 => ?_
 refine wp_seq_k fun K112 hK112 => ?_
 refine wp_region_lit ?_
 refine wl (eP 75 (v0 := .bool (decide (12 < 15))) (v := .bool true) hF (by kernel_rfl) (fun _ => by kernel_rfl) (bT (by omega)) fun a hF => ?_)
 refine wpList_nil ?_
 refine hK112 _ _ ?_
 refine wp_seq_k fun K113 hK113 => ?_
 refine cT hF (by kernel_rfl) (by kernel_rfl) ?_
 refine wp_skip ?_
 refine hK113 _ _ ?_
 refine wp_seq_k fun K114 hK114 => ?_
 refine wp_block ?_
 refine wp_seq_k fun K115 hK115 => ?_
 refine wp_region_lit ?_
 refine sB 1 [(76, .pointer (some ⟨bb6, 96, none⟩))] hF (by kernel_rfl) fun a hF => ?_
 refine wl (eL 77 6 96 (v := .agg #[.int .i64 5, .int .i64 0, .int .i64 0, .int .i64 0, .int .i64 100, .int .i64 0, .int .i64 4000, .int .i64 0]) hF hM (by kernel_rfl) rfl rfl (by kernel_rfl) (by kernel_rfl) fun a w hF hM => ?_)
 refine wl (eN 4 55 (t := 64) (fun b => .pointer (some ⟨b, 0, none⟩)) #[.int .i64 0, .int .i64 0, .int .i64 0, .int .i64 0, .int .i64 0, .int .i64 0, .int .i64 0, .int .i64 0] hF hM (by kernel_rfl) (fun _ => by kernel_rfl) fun bb55 a w hF hM => ?_)
 refine wl (sStore (i := 55) (off := 0) (cs' := #[.int .i64 5, .int .i64 0, .int .i64 0, .int .i64 0, .int .i64 100, .int .i64 0, .int .i64 4000, .int .i64 0]) hF hM (by kernel_rfl) rfl rfl (by kernel_rfl) (by kernel_rfl) rfl (by kernel_rfl) fun w hM => ?_)
 refine wpList_nil ?_
 refine hK115 _ _ ?_
 refine wp_seq_k fun K116 hK116 => ?_
 refine wp_region_lit ?_
 refine wl (eL 79 5 0 (v := .agg #[.slice (some ⟨bb1, 0, none⟩) 2 2, .slice (some ⟨bb2, 0, none⟩) 1 1, .int .i64 3200, .slice AA52 2 cc52, .slice AA53 1 cc53]) hF hM (by kernel_rfl) rfl rfl (by kernel_rfl) (by kernel_rfl) fun a w hF hM => ?_)
 refine sB 1 [(80, .pointer (some ⟨bb55, 0, none⟩))] hF (by kernel_rfl) fun a hF => ?_
 refine wl (eL 81 55 0 (v := .int .i64 5) hF hM (by kernel_rfl) rfl rfl (by kernel_rfl) (by kernel_rfl) fun a w hF hM => ?_)
 refine sB 1 [(82, .pointer (some ⟨bb55, 1, none⟩))] hF (by kernel_rfl) fun a hF => ?_
 refine wl (eL 83 55 1 (v := .agg #[.int .i64 0, .int .i64 0, .int .i64 0, .int .i64 100, .int .i64 0]) hF hM (by kernel_rfl) rfl rfl (by kernel_rfl) (by kernel_rfl) fun a w hF hM => ?_)
 refine sB 1 [(84, .pointer (some ⟨bb55, 6, none⟩))] hF (by kernel_rfl) fun a hF => ?_
 refine wl (eL 85 55 6 (v := .int .i64 4000) hF hM (by kernel_rfl) rfl rfl (by kernel_rfl) (by kernel_rfl) fun a w hF hM => ?_)
 refine wl (sRo2 56 57 (f := 17) (args := #[.agg #[.slice (some ⟨bb1, 0, none⟩) 2 2, .slice (some ⟨bb2, 0, none⟩) 1 1, .int .i64 3200, .slice AA52 2 cc52, .slice AA53 1 cc53], .int .i64 5, .agg #[.int .i64 0, .int .i64 0, .int .i64 0, .int .i64 100, .int .i64 0], .int .i64 4000]) (mk := (fun x y => .tuple #[.agg #[.slice (some ⟨bb1, 0, none⟩) 2 2, .slice (some ⟨bb2, 0, none⟩) 1 1, .int .i64 4000, x, y], .int .i64 0, .int .i64 0])) (A3 := AA52) (A4 := AA53) (n3 := 2) (n4 := 1) (xs := (([2, -1]).map (Value.int .i64))) (ys := (flatR ([[5000, 0, 0]]))) hF hM (by kernel_rfl) rfl (by decide) (by kernel_rfl) (fun _ => by kernel_rfl) (fiPass_ok (some ⟨bb1, 0, none⟩) [[3, 9, 7, 100, 1000, 200, 250], [3, 8, 6, 300, 0, 0, 0]] 2 (some ⟨bb2, 0, none⟩) [[5, 100, 1, 100, 1]] 1 3200 AA52 ([2, -1]) cc52 AA53 ([[0, 104857600, 104857600]]) cc53 5 0 0 0 100 0 4000 w (hM.roRow (k := 1) rfl) (show WR 7 ([[3, 9, 7, 100, 1000, 200, 250], [3, 8, 6, 300, 0, 0, 0]] : List (List Int)) from by unfold WR; simp) (hM.roRow (k := 2) rfl) (show WR 5 ([[5, 100, 1, 100, 1]] : List (List Int)) from by unfold WR; simp) (hM.ok 52 _ rfl) (hM.ok 53 _ rfl) (show WR 3 ([[0, 104857600, 104857600]]) from by unfold WR; simp) (by kernel_rfl) ⟨(by omega), (by omega)⟩ (by kernel_rfl) ⟨(by omega), (by omega)⟩ (by kernel_rfl) rfl rfl) (.inr (hM.free (j := 52) rfl)) (.inr (hM.free (j := 53) rfl)) fun AA56 cc56 AA57 cc57 a w hF hM => ?_)
 refine sB 4 [(78, .tuple #[.agg #[.slice (some ⟨bb1, 0, none⟩) 2 2, .slice (some ⟨bb2, 0, none⟩) 1 1, .int .i64 4000, .slice AA56 2 cc56, .slice AA57 1 cc57], .int .i64 0, .int .i64 0]), (87, .agg #[.slice (some ⟨bb1, 0, none⟩) 2 2, .slice (some ⟨bb2, 0, none⟩) 1 1, .int .i64 4000, .slice AA56 2 cc56, .slice AA57 1 cc57]), (88, .int .i64 0), (89, .int .i64 0)] hF (by kernel_rfl) fun a hF => ?_
 refine wl (eN 5 58 (t := 27) (fun b => .pointer (some ⟨b, 0, none⟩)) #[.slice none 0 0, .slice none 0 0, .int .i64 0, .slice none 0 0, .slice none 0 0] hF hM (by kernel_rfl) (fun _ => by kernel_rfl) fun bb58 a w hF hM => ?_)
 refine wl (sStore (i := 58) (off := 0) (cs' := #[.slice (some ⟨bb1, 0, none⟩) 2 2, .slice (some ⟨bb2, 0, none⟩) 1 1, .int .i64 4000, .slice AA56 2 cc56, .slice AA57 1 cc57]) hF hM (by kernel_rfl) rfl rfl (by kernel_rfl) (by kernel_rfl) rfl (by kernel_rfl) fun w hM => ?_)
 refine sB 2 [(6, .int .i64 0), (7, .int .i64 0)] hF (by kernel_rfl) fun a hF => ?_
 refine wpList_nil ?_
 refine hK116 _ _ ?_
 refine wp_seq_k fun K117 hK117 => ?_
 refine wp_region_lit ?_
 refine wl (eL 90 58 0 (v := .agg #[.slice (some ⟨bb1, 0, none⟩) 2 2, .slice (some ⟨bb2, 0, none⟩) 1 1, .int .i64 4000, .slice AA56 2 cc56, .slice AA57 1 cc57]) hF hM (by kernel_rfl) rfl rfl (by kernel_rfl) (by kernel_rfl) fun a w hF hM => ?_)
 refine wl (sStore (i := 5) (off := 0) (cs' := #[.slice (some ⟨bb1, 0, none⟩) 2 2, .slice (some ⟨bb2, 0, none⟩) 1 1, .int .i64 4000, .slice AA56 2 cc56, .slice AA57 1 cc57]) hF hM (by kernel_rfl) rfl rfl (by kernel_rfl) (by kernel_rfl) rfl (by kernel_rfl) fun w hM => ?_)
 refine wpList_nil ?_
 refine hK117 _ _ ?_
 refine wp_seq_k fun K118 hK118 => ?_
 refine wp_region_lit ?_
 refine sB 2 [(91, .int .i64 0), (92, .pointer (some ⟨bb55, 7, none⟩))] hF (by kernel_rfl) fun a hF => ?_
 refine wl (eL 93 55 7 (v := .int .i64 0) hF hM (by kernel_rfl) rfl rfl (by kernel_rfl) (by kernel_rfl) fun a w hF hM => ?_)
 refine wl (eP 94 (v0 := .bool (!decide (0 = 0))) (v := .bool false) hF (by kernel_rfl) (fun _ => by kernel_rfl) (nT (by omega)) fun a hF => ?_)
 refine sB 2 [(95, .bool false), (96, .int .i64 0)] hF (by kernel_rfl) fun a hF => ?_
 refine wl (eP 97 (v0 := .bool (!decide (0 = 0))) (v := .bool false) hF (by kernel_rfl) (fun _ => by kernel_rfl) (nT (by omega)) fun a hF => ?_)
 refine sB 1 [(98, .bool false)] hF (by kernel_rfl) fun a hF => ?_
 refine wpList_nil ?_
 refine hK118 _ _ ?_
 refine cF hF (by kernel_rfl) (by kernel_rfl) ?_
 refine wp_skip ?_
 refine hK114 _ _ ?_
 refine wp_region_lit ?_
 refine wl (eP 99 (v0 := .int .i64 (IntKind.i64.wrap (12 + 1))) (v := .int .i64 13) hF (by kernel_rfl) (fun _ => by kernel_rfl) (vi (by decide)) fun a hF => ?_)
 refine sB 1 [(74, .int .i64 13)] hF (by kernel_rfl) fun a hF => ?_
 refine wpList_nil ?_
 refine hK111 _ _ ?_
 refine rounds_k fun K119 hK119 => ?_
 refine wp_seq_k fun K120 hK120 => ?_
 refine wp_region_lit ?_
 refine wl (eP 75 (v0 := .bool (decide (13 < 15))) (v := .bool true) hF (by kernel_rfl) (fun _ => by kernel_rfl) (bT (by omega)) fun a hF => ?_)
 refine wpList_nil ?_
 refine hK120 _ _ ?_
 refine wp_seq_k fun K121 hK121 => ?_
 refine cT hF (by kernel_rfl) (by kernel_rfl) ?_
 refine wp_skip ?_
 refine hK121 _ _ ?_
 refine wp_seq_k fun K122 hK122 => ?_
 refine wp_block ?_
 refine wp_seq_k fun K123 hK123 => ?_
 refine wp_region_lit ?_
 refine sB 1 [(76, .pointer (some ⟨bb6, 104, none⟩))] hF (by kernel_rfl) fun a hF => ?_
 refine wl (eL 77 6 104 (v := .agg #[.int .i64 5, .int .i64 0, .int .i64 0, .int .i64 5, .int .i64 100, .int .i64 0, .int .i64 4000, .int .i64 5]) hF hM (by kernel_rfl) rfl rfl (by kernel_rfl) (by kernel_rfl) fun a w hF hM => ?_)
 refine wl (eN 4 59 (t := 64) (fun b => .pointer (some ⟨b, 0, none⟩)) #[.int .i64 0, .int .i64 0, .int .i64 0, .int .i64 0, .int .i64 0, .int .i64 0, .int .i64 0, .int .i64 0] hF hM (by kernel_rfl) (fun _ => by kernel_rfl) fun bb59 a w hF hM => ?_)
 refine wl (sStore (i := 59) (off := 0) (cs' := #[.int .i64 5, .int .i64 0, .int .i64 0, .int .i64 5, .int .i64 100, .int .i64 0, .int .i64 4000, .int .i64 5]) hF hM (by kernel_rfl) rfl rfl (by kernel_rfl) (by kernel_rfl) rfl (by kernel_rfl) fun w hM => ?_)
 refine wpList_nil ?_
 refine hK123 _ _ ?_
 refine wp_seq_k fun K124 hK124 => ?_
 refine wp_region_lit ?_
 refine wl (eL 79 5 0 (v := .agg #[.slice (some ⟨bb1, 0, none⟩) 2 2, .slice (some ⟨bb2, 0, none⟩) 1 1, .int .i64 4000, .slice AA56 2 cc56, .slice AA57 1 cc57]) hF hM (by kernel_rfl) rfl rfl (by kernel_rfl) (by kernel_rfl) fun a w hF hM => ?_)
 refine sB 1 [(80, .pointer (some ⟨bb59, 0, none⟩))] hF (by kernel_rfl) fun a hF => ?_
 refine wl (eL 81 59 0 (v := .int .i64 5) hF hM (by kernel_rfl) rfl rfl (by kernel_rfl) (by kernel_rfl) fun a w hF hM => ?_)
 refine sB 1 [(82, .pointer (some ⟨bb59, 1, none⟩))] hF (by kernel_rfl) fun a hF => ?_
 refine wl (eL 83 59 1 (v := .agg #[.int .i64 0, .int .i64 0, .int .i64 5, .int .i64 100, .int .i64 0]) hF hM (by kernel_rfl) rfl rfl (by kernel_rfl) (by kernel_rfl) fun a w hF hM => ?_)
 refine sB 1 [(84, .pointer (some ⟨bb59, 6, none⟩))] hF (by kernel_rfl) fun a hF => ?_
 refine wl (eL 85 59 6 (v := .int .i64 4000) hF hM (by kernel_rfl) rfl rfl (by kernel_rfl) (by kernel_rfl) fun a w hF hM => ?_)
 refine wl (sRo2 60 61 (f := 17) (args := #[.agg #[.slice (some ⟨bb1, 0, none⟩) 2 2, .slice (some ⟨bb2, 0, none⟩) 1 1, .int .i64 4000, .slice AA56 2 cc56, .slice AA57 1 cc57], .int .i64 5, .agg #[.int .i64 0, .int .i64 0, .int .i64 5, .int .i64 100, .int .i64 0], .int .i64 4000]) (mk := (fun x y => .tuple #[.agg #[.slice (some ⟨bb1, 0, none⟩) 2 2, .slice (some ⟨bb2, 0, none⟩) 1 1, .int .i64 4000, x, y], .int .i64 5, .int .i64 0])) (A3 := AA56) (A4 := AA57) (n3 := 2) (n4 := 1) (xs := (([2, -1]).map (Value.int .i64))) (ys := (flatR ([[5000, 0, 0]]))) hF hM (by kernel_rfl) rfl (by decide) (by kernel_rfl) (fun _ => by kernel_rfl) (fiPass_ok (some ⟨bb1, 0, none⟩) [[3, 9, 7, 100, 1000, 200, 250], [3, 8, 6, 300, 0, 0, 0]] 2 (some ⟨bb2, 0, none⟩) [[5, 100, 1, 100, 1]] 1 4000 AA56 ([2, -1]) cc56 AA57 ([[5000, 0, 0]]) cc57 5 0 0 5 100 0 4000 w (hM.roRow (k := 1) rfl) (show WR 7 ([[3, 9, 7, 100, 1000, 200, 250], [3, 8, 6, 300, 0, 0, 0]] : List (List Int)) from by unfold WR; simp) (hM.roRow (k := 2) rfl) (show WR 5 ([[5, 100, 1, 100, 1]] : List (List Int)) from by unfold WR; simp) (hM.ok 56 _ rfl) (hM.ok 57 _ rfl) (show WR 3 ([[5000, 0, 0]]) from by unfold WR; simp) (by kernel_rfl) ⟨(by omega), (by omega)⟩ (by kernel_rfl) ⟨(by omega), (by omega)⟩ (by kernel_rfl) rfl rfl) (.inr (hM.free (j := 56) rfl)) (.inr (hM.free (j := 57) rfl)) fun AA60 cc60 AA61 cc61 a w hF hM => ?_)
 refine sB 4 [(78, .tuple #[.agg #[.slice (some ⟨bb1, 0, none⟩) 2 2, .slice (some ⟨bb2, 0, none⟩) 1 1, .int .i64 4000, .slice AA60 2 cc60, .slice AA61 1 cc61], .int .i64 5, .int .i64 0]), (87, .agg #[.slice (some ⟨bb1, 0, none⟩) 2 2, .slice (some ⟨bb2, 0, none⟩) 1 1, .int .i64 4000, .slice AA60 2 cc60, .slice AA61 1 cc61]), (88, .int .i64 5), (89, .int .i64 0)] hF (by kernel_rfl) fun a hF => ?_
 refine wl (eN 5 62 (t := 27) (fun b => .pointer (some ⟨b, 0, none⟩)) #[.slice none 0 0, .slice none 0 0, .int .i64 0, .slice none 0 0, .slice none 0 0] hF hM (by kernel_rfl) (fun _ => by kernel_rfl) fun bb62 a w hF hM => ?_)
 refine wl (sStore (i := 62) (off := 0) (cs' := #[.slice (some ⟨bb1, 0, none⟩) 2 2, .slice (some ⟨bb2, 0, none⟩) 1 1, .int .i64 4000, .slice AA60 2 cc60, .slice AA61 1 cc61]) hF hM (by kernel_rfl) rfl rfl (by kernel_rfl) (by kernel_rfl) rfl (by kernel_rfl) fun w hM => ?_)
 refine sB 2 [(6, .int .i64 5), (7, .int .i64 0)] hF (by kernel_rfl) fun a hF => ?_
 refine wpList_nil ?_
 refine hK124 _ _ ?_
 refine wp_seq_k fun K125 hK125 => ?_
 refine wp_region_lit ?_
 refine wl (eL 90 62 0 (v := .agg #[.slice (some ⟨bb1, 0, none⟩) 2 2, .slice (some ⟨bb2, 0, none⟩) 1 1, .int .i64 4000, .slice AA60 2 cc60, .slice AA61 1 cc61]) hF hM (by kernel_rfl) rfl rfl (by kernel_rfl) (by kernel_rfl) fun a w hF hM => ?_)
 refine wl (sStore (i := 5) (off := 0) (cs' := #[.slice (some ⟨bb1, 0, none⟩) 2 2, .slice (some ⟨bb2, 0, none⟩) 1 1, .int .i64 4000, .slice AA60 2 cc60, .slice AA61 1 cc61]) hF hM (by kernel_rfl) rfl rfl (by kernel_rfl) (by kernel_rfl) rfl (by kernel_rfl) fun w hM => ?_)
 refine wpList_nil ?_
 refine hK125 _ _ ?_
 refine wp_seq_k fun K126 hK126 => ?_
 refine wp_region_lit ?_
 refine sB 2 [(91, .int .i64 5), (92, .pointer (some ⟨bb59, 7, none⟩))] hF (by kernel_rfl) fun a hF => ?_
 refine wl (eL 93 59 7 (v := .int .i64 5) hF hM (by kernel_rfl) rfl rfl (by kernel_rfl) (by kernel_rfl) fun a w hF hM => ?_)
 refine wl (eP 94 (v0 := .bool (!decide (5 = 5))) (v := .bool false) hF (by kernel_rfl) (fun _ => by kernel_rfl) (nT (by omega)) fun a hF => ?_)
 refine sB 2 [(95, .bool false), (96, .int .i64 0)] hF (by kernel_rfl) fun a hF => ?_
 refine wl (eP 97 (v0 := .bool (!decide (0 = 0))) (v := .bool false) hF (by kernel_rfl) (fun _ => by kernel_rfl) (nT (by omega)) fun a hF => ?_)
 refine sB 1 [(98, .bool false)] hF (by kernel_rfl) fun a hF => ?_
 refine wpList_nil ?_
 refine hK126 _ _ ?_
 refine cF hF (by kernel_rfl) (by kernel_rfl) ?_
 refine wp_skip ?_
 refine hK122 _ _ ?_
 refine wp_region_lit ?_
 refine wl (eP 99 (v0 := .int .i64 (IntKind.i64.wrap (13 + 1))) (v := .int .i64 14) hF (by kernel_rfl) (fun _ => by kernel_rfl) (vi (by decide)) fun a hF => ?_)
 refine sB 1 [(74, .int .i64 14)] hF (by kernel_rfl) fun a hF => ?_
 refine wpList_nil ?_
 refine hK119 _ _ ?_
 refine rounds_k fun K127 hK127 => ?_
 refine wp_seq_k fun K128 hK128 => ?_
 refine wp_region_lit ?_
 refine wl (eP 75 (v0 := .bool (decide (14 < 15))) (v := .bool true) hF (by kernel_rfl) (fun _ => by kernel_rfl) (bT (by omega)) fun a hF => ?_)
 refine wpList_nil ?_
 refine hK128 _ _ ?_
 refine wp_seq_k fun K129 hK129 => ?_
 refine cT hF (by kernel_rfl) (by kernel_rfl) ?_
 refine wp_skip ?_
 refine hK129 _ _ ?_
 refine wp_seq_k fun K130 hK130 => ?_
 refine wp_block ?_
 refine wp_seq_k fun K131 hK131 => ?_
 refine wp_region_lit ?_
 refine sB 1 [(76, .pointer (some ⟨bb6, 112, none⟩))] hF (by kernel_rfl) fun a hF => ?_
 refine wl (eL 77 6 112 (v := .agg #[.int .i64 6, .int .i64 0, .int .i64 0, .int .i64 0, .int .i64 100, .int .i64 0, .int .i64 4000, .int .i64 0]) hF hM (by kernel_rfl) rfl rfl (by kernel_rfl) (by kernel_rfl) fun a w hF hM => ?_)
 refine wl (eN 4 63 (t := 64) (fun b => .pointer (some ⟨b, 0, none⟩)) #[.int .i64 0, .int .i64 0, .int .i64 0, .int .i64 0, .int .i64 0, .int .i64 0, .int .i64 0, .int .i64 0] hF hM (by kernel_rfl) (fun _ => by kernel_rfl) fun bb63 a w hF hM => ?_)
 refine wl (sStore (i := 63) (off := 0) (cs' := #[.int .i64 6, .int .i64 0, .int .i64 0, .int .i64 0, .int .i64 100, .int .i64 0, .int .i64 4000, .int .i64 0]) hF hM (by kernel_rfl) rfl rfl (by kernel_rfl) (by kernel_rfl) rfl (by kernel_rfl) fun w hM => ?_)
 refine wpList_nil ?_
 refine hK131 _ _ ?_
 refine wp_seq_k fun K132 hK132 => ?_
 refine wp_region_lit ?_
 refine wl (eL 79 5 0 (v := .agg #[.slice (some ⟨bb1, 0, none⟩) 2 2, .slice (some ⟨bb2, 0, none⟩) 1 1, .int .i64 4000, .slice AA60 2 cc60, .slice AA61 1 cc61]) hF hM (by kernel_rfl) rfl rfl (by kernel_rfl) (by kernel_rfl) fun a w hF hM => ?_)
 refine sB 1 [(80, .pointer (some ⟨bb63, 0, none⟩))] hF (by kernel_rfl) fun a hF => ?_
 refine wl (eL 81 63 0 (v := .int .i64 6) hF hM (by kernel_rfl) rfl rfl (by kernel_rfl) (by kernel_rfl) fun a w hF hM => ?_)
 refine sB 1 [(82, .pointer (some ⟨bb63, 1, none⟩))] hF (by kernel_rfl) fun a hF => ?_
 refine wl (eL 83 63 1 (v := .agg #[.int .i64 0, .int .i64 0, .int .i64 0, .int .i64 100, .int .i64 0]) hF hM (by kernel_rfl) rfl rfl (by kernel_rfl) (by kernel_rfl) fun a w hF hM => ?_)
 refine sB 1 [(84, .pointer (some ⟨bb63, 6, none⟩))] hF (by kernel_rfl) fun a hF => ?_
 refine wl (eL 85 63 6 (v := .int .i64 4000) hF hM (by kernel_rfl) rfl rfl (by kernel_rfl) (by kernel_rfl) fun a w hF hM => ?_)
 refine wl (sRo2 64 65 (f := 17) (args := #[.agg #[.slice (some ⟨bb1, 0, none⟩) 2 2, .slice (some ⟨bb2, 0, none⟩) 1 1, .int .i64 4000, .slice AA60 2 cc60, .slice AA61 1 cc61], .int .i64 6, .agg #[.int .i64 0, .int .i64 0, .int .i64 0, .int .i64 100, .int .i64 0], .int .i64 4000]) (mk := (fun x y => .tuple #[.agg #[.slice (some ⟨bb1, 0, none⟩) 2 2, .slice (some ⟨bb2, 0, none⟩) 1 1, .int .i64 4000, x, y], .int .i64 0, .int .i64 0])) (A3 := AA60) (A4 := AA61) (n3 := 2) (n4 := 1) (xs := (([2, -1]).map (Value.int .i64))) (ys := (flatR ([[5000, 0, 0]]))) hF hM (by kernel_rfl) rfl (by decide) (by kernel_rfl) (fun _ => by kernel_rfl) (fiPass_ok (some ⟨bb1, 0, none⟩) [[3, 9, 7, 100, 1000, 200, 250], [3, 8, 6, 300, 0, 0, 0]] 2 (some ⟨bb2, 0, none⟩) [[5, 100, 1, 100, 1]] 1 4000 AA60 ([2, -1]) cc60 AA61 ([[5000, 0, 0]]) cc61 6 0 0 0 100 0 4000 w (hM.roRow (k := 1) rfl) (show WR 7 ([[3, 9, 7, 100, 1000, 200, 250], [3, 8, 6, 300, 0, 0, 0]] : List (List Int)) from by unfold WR; simp) (hM.roRow (k := 2) rfl) (show WR 5 ([[5, 100, 1, 100, 1]] : List (List Int)) from by unfold WR; simp) (hM.ok 60 _ rfl) (hM.ok 61 _ rfl) (show WR 3 ([[5000, 0, 0]]) from by unfold WR; simp) (by kernel_rfl) ⟨(by omega), (by omega)⟩ (by kernel_rfl) ⟨(by omega), (by omega)⟩ (by kernel_rfl) rfl rfl) (.inr (hM.free (j := 60) rfl)) (.inr (hM.free (j := 61) rfl)) fun AA64 cc64 AA65 cc65 a w hF hM => ?_)
 refine sB 4 [(78, .tuple #[.agg #[.slice (some ⟨bb1, 0, none⟩) 2 2, .slice (some ⟨bb2, 0, none⟩) 1 1, .int .i64 4000, .slice AA64 2 cc64, .slice AA65 1 cc65], .int .i64 0, .int .i64 0]), (87, .agg #[.slice (some ⟨bb1, 0, none⟩) 2 2, .slice (some ⟨bb2, 0, none⟩) 1 1, .int .i64 4000, .slice AA64 2 cc64, .slice AA65 1 cc65]), (88, .int .i64 0), (89, .int .i64 0)] hF (by kernel_rfl) fun a hF => ?_
 refine wl (eN 5 66 (t := 27) (fun b => .pointer (some ⟨b, 0, none⟩)) #[.slice none 0 0, .slice none 0 0, .int .i64 0, .slice none 0 0, .slice none 0 0] hF hM (by kernel_rfl) (fun _ => by kernel_rfl) fun bb66 a w hF hM => ?_)
 refine wl (sStore (i := 66) (off := 0) (cs' := #[.slice (some ⟨bb1, 0, none⟩) 2 2, .slice (some ⟨bb2, 0, none⟩) 1 1, .int .i64 4000, .slice AA64 2 cc64, .slice AA65 1 cc65]) hF hM (by kernel_rfl) rfl rfl (by kernel_rfl) (by kernel_rfl) rfl (by kernel_rfl) fun w hM => ?_)
 refine sB 2 [(6, .int .i64 0), (7, .int .i64 0)] hF (by kernel_rfl) fun a hF => ?_
 refine wpList_nil ?_
 refine hK132 _ _ ?_
 refine wp_seq_k fun K133 hK133 => ?_
 refine wp_region_lit ?_
 refine wl (eL 90 66 0 (v := .agg #[.slice (some ⟨bb1, 0, none⟩) 2 2, .slice (some ⟨bb2, 0, none⟩) 1 1, .int .i64 4000, .slice AA64 2 cc64, .slice AA65 1 cc65]) hF hM (by kernel_rfl) rfl rfl (by kernel_rfl) (by kernel_rfl) fun a w hF hM => ?_)
 refine wl (sStore (i := 5) (off := 0) (cs' := #[.slice (some ⟨bb1, 0, none⟩) 2 2, .slice (some ⟨bb2, 0, none⟩) 1 1, .int .i64 4000, .slice AA64 2 cc64, .slice AA65 1 cc65]) hF hM (by kernel_rfl) rfl rfl (by kernel_rfl) (by kernel_rfl) rfl (by kernel_rfl) fun w hM => ?_)
 refine wpList_nil ?_
 refine hK133 _ _ ?_
 refine wp_seq_k fun K134 hK134 => ?_
 refine wp_region_lit ?_
 refine sB 2 [(91, .int .i64 0), (92, .pointer (some ⟨bb63, 7, none⟩))] hF (by kernel_rfl) fun a hF => ?_
 refine wl (eL 93 63 7 (v := .int .i64 0) hF hM (by kernel_rfl) rfl rfl (by kernel_rfl) (by kernel_rfl) fun a w hF hM => ?_)
 refine wl (eP 94 (v0 := .bool (!decide (0 = 0))) (v := .bool false) hF (by kernel_rfl) (fun _ => by kernel_rfl) (nT (by omega)) fun a hF => ?_)
 refine sB 2 [(95, .bool false), (96, .int .i64 0)] hF (by kernel_rfl) fun a hF => ?_
 refine wl (eP 97 (v0 := .bool (!decide (0 = 0))) (v := .bool false) hF (by kernel_rfl) (fun _ => by kernel_rfl) (nT (by omega)) fun a hF => ?_)
 refine sB 1 [(98, .bool false)] hF (by kernel_rfl) fun a hF => ?_
 refine wpList_nil ?_
 refine hK134 _ _ ?_
 refine cF hF (by kernel_rfl) (by kernel_rfl) ?_
 refine wp_skip ?_
 refine hK130 _ _ ?_
 refine wp_region_lit ?_
 refine wl (eP 99 (v0 := .int .i64 (IntKind.i64.wrap (14 + 1))) (v := .int .i64 15) hF (by kernel_rfl) (fun _ => by kernel_rfl) (vi (by decide)) fun a hF => ?_)
 refine sB 1 [(74, .int .i64 15)] hF (by kernel_rfl) fun a hF => ?_
 refine wpList_nil ?_
 refine hK127 _ _ ?_
 refine rounds_k fun K135 hK135 => ?_
 refine wp_seq_k fun K136 hK136 => ?_
 refine wp_region_lit ?_
 refine wl (eP 75 (v0 := .bool (decide (15 < 15))) (v := .bool false) hF (by kernel_rfl) (fun _ => by kernel_rfl) (bF (by omega)) fun a hF => ?_)
 refine wpList_nil ?_
 refine hK136 _ _ ?_
 refine wp_seq_k fun K137 hK137 => ?_
 refine cF hF (by kernel_rfl) (by kernel_rfl) ?_
 refine wp_exit ?_
 refine hK13 _ _ ?_
 refine wp_seq_k fun K138 hK138 => ?_
 refine rF (by kernel_rfl) (by kernel_rfl) (fun S a w => ∃ bb67 : Nat, Fr 212 [(0, some (.bool false)), (1, some (.pointer (some ⟨bb5, 0, none⟩))), (8, (cond (S.getD 7 false) (some (.pointer (some ⟨bb67, 0, none⟩))) none)), (9, (cond (S.getD 9 false) (some (.int .i64 0)) none)), (10, (cond (S.getD 10 false) (some (.int .i64 2)) none)), (100, (cond (S.getD 3 false) (some (.tuple #[.agg #[.slice none 0 0, .slice none 0 0, .int .i64 0, .slice none 0 0, .slice none 0 0], .int .i64 0, .int .i64 2])) none)), (101, (cond (S.getD 0 false) (some (.agg #[.slice (some ⟨bb1, 0, none⟩) 2 2, .slice (some ⟨bb2, 0, none⟩) 1 1, .int .i64 4000, .slice AA64 2 cc64, .slice AA65 1 cc65])) none)), (102, (cond (S.getD 1 false) (some (.agg #[.int .i64 9, .int .i64 0, .int .i64 7, .int .i64 100, .int .i64 0])) none)), (103, (cond (S.getD 2 false) (some (.tuple #[.agg #[.slice none 0 0, .slice none 0 0, .int .i64 0, .slice none 0 0, .slice none 0 0], .int .i64 0, .int .i64 2])) none)), (104, (cond (S.getD 4 false) (some (.agg #[.slice none 0 0, .slice none 0 0, .int .i64 0, .slice none 0 0, .slice none 0 0])) none)), (105, (cond (S.getD 5 false) (some (.int .i64 0)) none)), (106, (cond (S.getD 6 false) (some (.int .i64 2)) none))] a ∧ Mem w0.heap.size w0 [(1, some (.row bb1 57 #[.int .i64 3, .int .i64 9, .int .i64 7, .int .i64 100, .int .i64 1000, .int .i64 200, .int .i64 250, .int .i64 3, .int .i64 8, .int .i64 6, .int .i64 300, .int .i64 0, .int .i64 0, .int .i64 0])), (2, some (.row bb2 69 #[.int .i64 5, .int .i64 100, .int .i64 1, .int .i64 100, .int .i64 1])), (3, some (.ro AA3 (([-1, -1]).map (Value.int .i64)))), (4, some (.ro AA4 (flatR ([[0, 104857600, 104857600]])))), (5, some (.row bb5 27 #[.slice (some ⟨bb1, 0, none⟩) 2 2, .slice (some ⟨bb2, 0, none⟩) 1 1, .int .i64 4000, .slice AA64 2 cc64, .slice AA65 1 cc65])), (8, some (.ro AA8 (([-1, -1]).map (Value.int .i64)))), (9, some (.ro AA9 (flatR ([[0, 104857600, 104857600]])))), (12, some (.ro AA12 (([0, -1]).map (Value.int .i64)))), (13, some (.ro AA13 (flatR ([[0, 104857600, 104857600]])))), (16, some (.ro AA16 (([0, -1]).map (Value.int .i64)))), (17, some (.ro AA17 (flatR ([[0, 104857600, 104857600]])))), (20, some (.ro AA20 (([0, -1]).map (Value.int .i64)))), (21, some (.ro AA21 (flatR ([[0, 104857600, 104857600]])))), (24, some (.ro AA24 (([0, -1]).map (Value.int .i64)))), (25, some (.ro AA25 (flatR ([[0, 104857600, 104857600]])))), (28, some (.ro AA28 (([1, -1]).map (Value.int .i64)))), (29, some (.ro AA29 (flatR ([[0, 104857600, 104857600]])))), (32, some (.ro AA32 (([1, -1]).map (Value.int .i64)))), (33, some (.ro AA33 (flatR ([[0, 104857600, 104857600]])))), (36, some (.ro AA36 (([2, -1]).map (Value.int .i64)))), (37, some (.ro AA37 (flatR ([[0, 104857600, 104857600]])))), (40, some (.ro AA40 (([2, -1]).map (Value.int .i64)))), (41, some (.ro AA41 (flatR ([[0, 104857600, 104857600]])))), (44, some (.ro AA44 (([2, -1]).map (Value.int .i64)))), (45, some (.ro AA45 (flatR ([[0, 104857600, 104857600]])))), (48, some (.ro AA48 (([2, -1]).map (Value.int .i64)))), (49, some (.ro AA49 (flatR ([[0, 104857600, 104857600]])))), (52, some (.ro AA52 (([2, -1]).map (Value.int .i64)))), (53, some (.ro AA53 (flatR ([[0, 104857600, 104857600]])))), (56, some (.ro AA56 (([2, -1]).map (Value.int .i64)))), (57, some (.ro AA57 (flatR ([[5000, 0, 0]])))), (60, some (.ro AA60 (([2, -1]).map (Value.int .i64)))), (61, some (.ro AA61 (flatR ([[5000, 0, 0]])))), (64, some (.ro AA64 (([2, -1]).map (Value.int .i64)))), (65, some (.ro AA65 (flatR ([[5000, 0, 0]])))), (67, (cond (S.getD 8 false) (some (.row bb67 27 #[.slice none 0 0, .slice none 0 0, .int .i64 0, .slice none 0 0, .slice none 0 0])) (cond (S.getD 7 false) (some (.row bb67 27 #[.slice none 0 0, .slice none 0 0, .int .i64 0, .slice none 0 0, .slice none 0 0])) none)))] w) ?_ ?_ ?_
 ·exact ⟨0, (((((((((((((Fr.nil hF).co hF (i := 106) (by kernel_rfl)).co hF (i := 105) (by kernel_rfl)).co hF (i := 104) (by kernel_rfl)).co hF (i := 103) (by kernel_rfl)).co hF (i := 102) (by kernel_rfl)).co hF (i := 101) (by kernel_rfl)).co hF (i := 100) (by kernel_rfl)).co hF (i := 10) (by kernel_rfl)).co hF (i := 9) (by kernel_rfl)).co hF (i := 8) (by kernel_rfl)).co hF (i := 1) (by kernel_rfl)).co hF (i := 0) (by kernel_rfl)), hM.drew.sub ((((((((((((((((((((((((((((((((((((Sub.nil.co (k := 67) (by kernel_rfl)).co (k := 65) (by kernel_rfl)).co (k := 64) (by kernel_rfl)).co (k := 61) (by kernel_rfl)).co (k := 60) (by kernel_rfl)).co (k := 57) (by kernel_rfl)).co (k := 56) (by kernel_rfl)).co (k := 53) (by kernel_rfl)).co (k := 52) (by kernel_rfl)).co (k := 49) (by kernel_rfl)).co (k := 48) (by kernel_rfl)).co (k := 45) (by kernel_rfl)).co (k := 44) (by kernel_rfl)).co (k := 41) (by kernel_rfl)).co (k := 40) (by kernel_rfl)).co (k := 37) (by kernel_rfl)).co (k := 36) (by kernel_rfl)).co (k := 33) (by kernel_rfl)).co (k := 32) (by kernel_rfl)).co (k := 29) (by kernel_rfl)).co (k := 28) (by kernel_rfl)).co (k := 25) (by kernel_rfl)).co (k := 24) (by kernel_rfl)).co (k := 21) (by kernel_rfl)).co (k := 20) (by kernel_rfl)).co (k := 17) (by kernel_rfl)).co (k := 16) (by kernel_rfl)).co (k := 13) (by kernel_rfl)).co (k := 12) (by kernel_rfl)).co (k := 9) (by kernel_rfl)).co (k := 8) (by kernel_rfl)).co (k := 5) (by kernel_rfl)).co (k := 4) (by kernel_rfl)).co (k := 3) (by kernel_rfl)).co (k := 2) (by kernel_rfl)).co (k := 1) (by kernel_rfl))⟩
 ·refine stC ?_ (stC ?_ (stC ?_ (stC ?_ (stC ?_ (stC ?_ (stC ?_ (stC ?_ (stC ?_ (stC ?_ (stC ?_ (trivial)))))))))))
  ·intro s0 s1 s2 s3 s4 s5 s6 s7 s8 s9 s10 hc hi hp a w hS
   obtain rfl : s0 = false := hi
   obtain ⟨bb67, hF, hM⟩ := hS
   refine eL 101 5 0 (v := .agg #[.slice (some ⟨bb1, 0, none⟩) 2 2, .slice (some ⟨bb2, 0, none⟩) 1 1, .int .i64 4000, .slice AA64 2 cc64, .slice AA65 1 cc65]) hF hM (by kernel_rfl) rfl rfl (by kernel_rfl) (by kernel_rfl) fun a w hF hM => ?_
   exact ⟨bb67, ((hF.repl 6 (by kernel_rfl)).cast (by kernel_rfl)), (hM.cast (by kernel_rfl))⟩
  ·intro s0 s1 s2 s3 s4 s5 s6 s7 s8 s9 s10 hc hi hp a w hS
   obtain rfl : s1 = false := hi
   obtain ⟨bb67, hF, hM⟩ := hS
   refine eM 102 (v := .agg #[.int .i64 9, .int .i64 0, .int .i64 7, .int .i64 100, .int .i64 0]) hF hM (by kernel_rfl) (yld_call (f := 25) (args := #[.int .i64 9, .int .i64 7, .int .i64 100]) hF (by kernel_rfl) (fun _ => by kernel_rfl) (fun w hM => frame_w 9 7 100 w)) fun a w hF hM => ?_
   exact ⟨bb67, ((hF.repl 7 (by kernel_rfl)).cast (by kernel_rfl)), (hM.cast (by kernel_rfl))⟩
  ·intro s0 s1 s2 s3 s4 s5 s6 s7 s8 s9 s10 hc hi hp a w hS
   obtain rfl : s2 = false := hi
   obtain rfl : s1 = true := hp 1 (by kernel_rfl)
   obtain rfl : s0 = true := hp 0 (by kernel_rfl)
   obtain ⟨bb67, hF, hM⟩ := hS
   refine eM 103 (v := .tuple #[.agg #[.slice none 0 0, .slice none 0 0, .int .i64 0, .slice none 0 0, .slice none 0 0], .int .i64 0, .int .i64 2]) hF hM (by kernel_rfl) (yld_call (f := 17) (args := #[.agg #[.slice (some ⟨bb1, 0, none⟩) 2 2, .slice (some ⟨bb2, 0, none⟩) 1 1, .int .i64 4000, .slice AA64 2 cc64, .slice AA65 1 cc65], .int .i64 3, .agg #[.int .i64 9, .int .i64 0, .int .i64 7, .int .i64 100, .int .i64 0], .int .i64 3999]) hF (by kernel_rfl) (fun _ => by kernel_rfl) (fun w hM => ps_err (ps_time (by kernel_rfl) ⟨(by omega), (by omega)⟩ (by kernel_rfl) (fun z => absurd z.1 (by omega))) (by decide) (fun q => fiPass_no (some ⟨bb1, 0, none⟩) [[3, 9, 7, 100, 1000, 200, 250], [3, 8, 6, 300, 0, 0, 0]] 2 (some ⟨bb2, 0, none⟩) [[5, 100, 1, 100, 1]] 1 4000 AA64 ([2, -1]) cc64 AA65 ([[5000, 0, 0]]) cc65 3 9 0 7 100 0 3999 w (hM.roRow (k := 1) rfl) (show WR 7 ([[3, 9, 7, 100, 1000, 200, 250], [3, 8, 6, 300, 0, 0, 0]] : List (List Int)) from by unfold WR; simp) (hM.roRow (k := 2) rfl) (show WR 5 ([[5, 100, 1, 100, 1]] : List (List Int)) from by unfold WR; simp) (hM.ok 64 _ rfl) (hM.ok 65 _ rfl) (show WR 3 ([[5000, 0, 0]]) from by unfold WR; simp) q))) fun a w hF hM => ?_
   exact ⟨bb67, ((hF.repl 8 (by kernel_rfl)).cast (by kernel_rfl)), (hM.cast (by kernel_rfl))⟩
  ·intro s0 s1 s2 s3 s4 s5 s6 s7 s8 s9 s10 hc hi hp a w hS
   obtain rfl : s3 = false := hi
   obtain rfl : s2 = true := hp 2 (by kernel_rfl)
   obtain ⟨bb67, hF, hM⟩ := hS
   refine eP 100 (v0 := .tuple #[.agg #[.slice none 0 0, .slice none 0 0, .int .i64 0, .slice none 0 0, .slice none 0 0], .int .i64 0, .int .i64 2]) (v := .tuple #[.agg #[.slice none 0 0, .slice none 0 0, .int .i64 0, .slice none 0 0, .slice none 0 0], .int .i64 0, .int .i64 2]) hF (by kernel_rfl) (fun _ => by kernel_rfl) rfl fun a hF => ?_
   exact ⟨bb67, ((hF.repl 5 (by kernel_rfl)).cast (by kernel_rfl)), (hM.cast (by kernel_rfl))⟩
  ·intro s0 s1 s2 s3 s4 s5 s6 s7 s8 s9 s10 hc hi hp a w hS
   obtain rfl : s4 = false := hi
   obtain rfl : s3 = true := hp 3 (by kernel_rfl)
   obtain ⟨bb67, hF, hM⟩ := hS
   refine eP 104 (v0 := .agg #[.slice none 0 0, .slice none 0 0, .int .i64 0, .slice none 0 0, .slice none 0 0]) (v := .agg #[.slice none 0 0, .slice none 0 0, .int .i64 0, .slice none 0 0, .slice none 0 0]) hF (by kernel_rfl) (fun _ => by kernel_rfl) rfl fun a hF => ?_
   exact ⟨bb67, ((hF.repl 9 (by kernel_rfl)).cast (by kernel_rfl)), (hM.cast (by kernel_rfl))⟩
  ·intro s0 s1 s2 s3 s4 s5 s6 s7 s8 s9 s10 hc hi hp a w hS
   obtain rfl : s5 = false := hi
   obtain rfl : s3 = true := hp 3 (by kernel_rfl)
   obtain ⟨bb67, hF, hM⟩ := hS
   refine eP 105 (v0 := .int .i64 0) (v := .int .i64 0) hF (by kernel_rfl) (fun _ => by kernel_rfl) rfl fun a hF => ?_
   exact ⟨bb67, ((hF.repl 10 (by kernel_rfl)).cast (by kernel_rfl)), (hM.cast (by kernel_rfl))⟩
  ·intro s0 s1 s2 s3 s4 s5 s6 s7 s8 s9 s10 hc hi hp a w hS
   obtain rfl : s6 = false := hi
   obtain rfl : s3 = true := hp 3 (by kernel_rfl)
   obtain ⟨bb67, hF, hM⟩ := hS
   refine eP 106 (v0 := .int .i64 2) (v := .int .i64 2) hF (by kernel_rfl) (fun _ => by kernel_rfl) rfl fun a hF => ?_
   exact ⟨bb67, ((hF.repl 11 (by kernel_rfl)).cast (by kernel_rfl)), (hM.cast (by kernel_rfl))⟩
  ·intro s0 s1 s2 s3 s4 s5 s6 s7 s8 s9 s10 hc hi hp a w hS
   obtain rfl : s7 = false := hi
   obtain rfl : s8 = false := hc.f 8 7 (by kernel_rfl) rfl
   obtain ⟨bb67, hF, hM⟩ := hS
   refine eN 8 67 (t := 27) (fun b => .pointer (some ⟨b, 0, none⟩)) #[.slice none 0 0, .slice none 0 0, .int .i64 0, .slice none 0 0, .slice none 0 0] hF hM (by kernel_rfl) (fun _ => by kernel_rfl) fun bb67 a w hF hM => ?_
   exact ⟨bb67, ((hF.repl 2 (by kernel_rfl)).cast (by kernel_rfl)), ((hM.repl 35 (by kernel_rfl)).cast (by kernel_rfl))⟩
  ·intro s0 s1 s2 s3 s4 s5 s6 s7 s8 s9 s10 hc hi hp a w hS
   obtain rfl : s8 = false := hi
   obtain rfl : s7 = true := hp 7 (by kernel_rfl)
   obtain rfl : s4 = true := hp 4 (by kernel_rfl)
   obtain ⟨bb67, hF, hM⟩ := hS
   refine sStore (i := 67) (off := 0) (cs' := #[.slice none 0 0, .slice none 0 0, .int .i64 0, .slice none 0 0, .slice none 0 0]) hF hM (by kernel_rfl) rfl rfl (by kernel_rfl) (by kernel_rfl) rfl (by kernel_rfl) fun w hM => ?_
   exact ⟨bb67, (hF.cast (by kernel_rfl)), ((hM.repl 35 (by kernel_rfl)).cast (by kernel_rfl))⟩
  ·intro s0 s1 s2 s3 s4 s5 s6 s7 s8 s9 s10 hc hi hp a w hS
   obtain rfl : s9 = false := hi
   obtain rfl : s5 = true := hp 5 (by kernel_rfl)
   obtain ⟨bb67, hF, hM⟩ := hS
   refine eP 9 (v0 := .int .i64 0) (v := .int .i64 0) hF (by kernel_rfl) (fun _ => by kernel_rfl) rfl fun a hF => ?_
   exact ⟨bb67, ((hF.repl 3 (by kernel_rfl)).cast (by kernel_rfl)), (hM.cast (by kernel_rfl))⟩
  ·intro s0 s1 s2 s3 s4 s5 s6 s7 s8 s9 s10 hc hi hp a w hS
   obtain rfl : s10 = false := hi
   obtain rfl : s6 = true := hp 6 (by kernel_rfl)
   obtain ⟨bb67, hF, hM⟩ := hS
   refine eP 10 (v0 := .int .i64 2) (v := .int .i64 2) hF (by kernel_rfl) (fun _ => by kernel_rfl) rfl fun a hF => ?_
   exact ⟨bb67, ((hF.repl 4 (by kernel_rfl)).cast (by kernel_rfl)), (hM.cast (by kernel_rfl))⟩
 ·intro a w hS
  obtain ⟨bb67, hF, hM⟩ := hS
  replace hF : Fr 212 [(0, some (.bool false)), (1, some (.pointer (some ⟨bb5, 0, none⟩))), (8, some (.pointer (some ⟨bb67, 0, none⟩))), (9, some (.int .i64 0)), (10, some (.int .i64 2)), (100, some (.tuple #[.agg #[.slice none 0 0, .slice none 0 0, .int .i64 0, .slice none 0 0, .slice none 0 0], .int .i64 0, .int .i64 2])), (101, some (.agg #[.slice (some ⟨bb1, 0, none⟩) 2 2, .slice (some ⟨bb2, 0, none⟩) 1 1, .int .i64 4000, .slice AA64 2 cc64, .slice AA65 1 cc65])), (102, some (.agg #[.int .i64 9, .int .i64 0, .int .i64 7, .int .i64 100, .int .i64 0])), (103, some (.tuple #[.agg #[.slice none 0 0, .slice none 0 0, .int .i64 0, .slice none 0 0, .slice none 0 0], .int .i64 0, .int .i64 2])), (104, some (.agg #[.slice none 0 0, .slice none 0 0, .int .i64 0, .slice none 0 0, .slice none 0 0])), (105, some (.int .i64 0)), (106, some (.int .i64 2))] a := hF.cast (by kernel_rfl)
  replace hM : Mem w0.heap.size w0 [(1, some (.row bb1 57 #[.int .i64 3, .int .i64 9, .int .i64 7, .int .i64 100, .int .i64 1000, .int .i64 200, .int .i64 250, .int .i64 3, .int .i64 8, .int .i64 6, .int .i64 300, .int .i64 0, .int .i64 0, .int .i64 0])), (2, some (.row bb2 69 #[.int .i64 5, .int .i64 100, .int .i64 1, .int .i64 100, .int .i64 1])), (3, some (.ro AA3 (([-1, -1]).map (Value.int .i64)))), (4, some (.ro AA4 (flatR ([[0, 104857600, 104857600]])))), (5, some (.row bb5 27 #[.slice (some ⟨bb1, 0, none⟩) 2 2, .slice (some ⟨bb2, 0, none⟩) 1 1, .int .i64 4000, .slice AA64 2 cc64, .slice AA65 1 cc65])), (8, some (.ro AA8 (([-1, -1]).map (Value.int .i64)))), (9, some (.ro AA9 (flatR ([[0, 104857600, 104857600]])))), (12, some (.ro AA12 (([0, -1]).map (Value.int .i64)))), (13, some (.ro AA13 (flatR ([[0, 104857600, 104857600]])))), (16, some (.ro AA16 (([0, -1]).map (Value.int .i64)))), (17, some (.ro AA17 (flatR ([[0, 104857600, 104857600]])))), (20, some (.ro AA20 (([0, -1]).map (Value.int .i64)))), (21, some (.ro AA21 (flatR ([[0, 104857600, 104857600]])))), (24, some (.ro AA24 (([0, -1]).map (Value.int .i64)))), (25, some (.ro AA25 (flatR ([[0, 104857600, 104857600]])))), (28, some (.ro AA28 (([1, -1]).map (Value.int .i64)))), (29, some (.ro AA29 (flatR ([[0, 104857600, 104857600]])))), (32, some (.ro AA32 (([1, -1]).map (Value.int .i64)))), (33, some (.ro AA33 (flatR ([[0, 104857600, 104857600]])))), (36, some (.ro AA36 (([2, -1]).map (Value.int .i64)))), (37, some (.ro AA37 (flatR ([[0, 104857600, 104857600]])))), (40, some (.ro AA40 (([2, -1]).map (Value.int .i64)))), (41, some (.ro AA41 (flatR ([[0, 104857600, 104857600]])))), (44, some (.ro AA44 (([2, -1]).map (Value.int .i64)))), (45, some (.ro AA45 (flatR ([[0, 104857600, 104857600]])))), (48, some (.ro AA48 (([2, -1]).map (Value.int .i64)))), (49, some (.ro AA49 (flatR ([[0, 104857600, 104857600]])))), (52, some (.ro AA52 (([2, -1]).map (Value.int .i64)))), (53, some (.ro AA53 (flatR ([[0, 104857600, 104857600]])))), (56, some (.ro AA56 (([2, -1]).map (Value.int .i64)))), (57, some (.ro AA57 (flatR ([[5000, 0, 0]])))), (60, some (.ro AA60 (([2, -1]).map (Value.int .i64)))), (61, some (.ro AA61 (flatR ([[5000, 0, 0]])))), (64, some (.ro AA64 (([2, -1]).map (Value.int .i64)))), (65, some (.ro AA65 (flatR ([[5000, 0, 0]])))), (67, some (.row bb67 27 #[.slice none 0 0, .slice none 0 0, .int .i64 0, .slice none 0 0, .slice none 0 0]))] w := hM.cast (by kernel_rfl)
  refine hK138 _ _ ?_
  refine wp_seq_k fun K139 hK139 => ?_
  refine rF (by kernel_rfl) (by kernel_rfl) (fun S a w => ∃ bb68 : Nat, Fr 212 [(0, some (.bool false)), (1, some (.pointer (some ⟨bb5, 0, none⟩))), (10, some (.int .i64 2)), (11, (cond (S.getD 7 false) (some (.pointer (some ⟨bb68, 0, none⟩))) none)), (12, (cond (S.getD 9 false) (some (.int .i64 0)) none)), (13, (cond (S.getD 10 false) (some (.int .i64 2)) none)), (107, (cond (S.getD 3 false) (some (.tuple #[.agg #[.slice none 0 0, .slice none 0 0, .int .i64 0, .slice none 0 0, .slice none 0 0], .int .i64 0, .int .i64 2])) none)), (108, (cond (S.getD 0 false) (some (.agg #[.slice (some ⟨bb1, 0, none⟩) 2 2, .slice (some ⟨bb2, 0, none⟩) 1 1, .int .i64 4000, .slice AA64 2 cc64, .slice AA65 1 cc65])) none)), (109, (cond (S.getD 1 false) (some (.agg #[.int .i64 9, .int .i64 0, .int .i64 7, .int .i64 100, .int .i64 0])) none)), (110, (cond (S.getD 2 false) (some (.tuple #[.agg #[.slice none 0 0, .slice none 0 0, .int .i64 0, .slice none 0 0, .slice none 0 0], .int .i64 0, .int .i64 2])) none)), (111, (cond (S.getD 4 false) (some (.agg #[.slice none 0 0, .slice none 0 0, .int .i64 0, .slice none 0 0, .slice none 0 0])) none)), (112, (cond (S.getD 5 false) (some (.int .i64 0)) none)), (113, (cond (S.getD 6 false) (some (.int .i64 2)) none))] a ∧ Mem w0.heap.size w0 [(1, some (.row bb1 57 #[.int .i64 3, .int .i64 9, .int .i64 7, .int .i64 100, .int .i64 1000, .int .i64 200, .int .i64 250, .int .i64 3, .int .i64 8, .int .i64 6, .int .i64 300, .int .i64 0, .int .i64 0, .int .i64 0])), (2, some (.row bb2 69 #[.int .i64 5, .int .i64 100, .int .i64 1, .int .i64 100, .int .i64 1])), (3, some (.ro AA3 (([-1, -1]).map (Value.int .i64)))), (4, some (.ro AA4 (flatR ([[0, 104857600, 104857600]])))), (5, some (.row bb5 27 #[.slice (some ⟨bb1, 0, none⟩) 2 2, .slice (some ⟨bb2, 0, none⟩) 1 1, .int .i64 4000, .slice AA64 2 cc64, .slice AA65 1 cc65])), (8, some (.ro AA8 (([-1, -1]).map (Value.int .i64)))), (9, some (.ro AA9 (flatR ([[0, 104857600, 104857600]])))), (12, some (.ro AA12 (([0, -1]).map (Value.int .i64)))), (13, some (.ro AA13 (flatR ([[0, 104857600, 104857600]])))), (16, some (.ro AA16 (([0, -1]).map (Value.int .i64)))), (17, some (.ro AA17 (flatR ([[0, 104857600, 104857600]])))), (20, some (.ro AA20 (([0, -1]).map (Value.int .i64)))), (21, some (.ro AA21 (flatR ([[0, 104857600, 104857600]])))), (24, some (.ro AA24 (([0, -1]).map (Value.int .i64)))), (25, some (.ro AA25 (flatR ([[0, 104857600, 104857600]])))), (28, some (.ro AA28 (([1, -1]).map (Value.int .i64)))), (29, some (.ro AA29 (flatR ([[0, 104857600, 104857600]])))), (32, some (.ro AA32 (([1, -1]).map (Value.int .i64)))), (33, some (.ro AA33 (flatR ([[0, 104857600, 104857600]])))), (36, some (.ro AA36 (([2, -1]).map (Value.int .i64)))), (37, some (.ro AA37 (flatR ([[0, 104857600, 104857600]])))), (40, some (.ro AA40 (([2, -1]).map (Value.int .i64)))), (41, some (.ro AA41 (flatR ([[0, 104857600, 104857600]])))), (44, some (.ro AA44 (([2, -1]).map (Value.int .i64)))), (45, some (.ro AA45 (flatR ([[0, 104857600, 104857600]])))), (48, some (.ro AA48 (([2, -1]).map (Value.int .i64)))), (49, some (.ro AA49 (flatR ([[0, 104857600, 104857600]])))), (52, some (.ro AA52 (([2, -1]).map (Value.int .i64)))), (53, some (.ro AA53 (flatR ([[0, 104857600, 104857600]])))), (56, some (.ro AA56 (([2, -1]).map (Value.int .i64)))), (57, some (.ro AA57 (flatR ([[5000, 0, 0]])))), (60, some (.ro AA60 (([2, -1]).map (Value.int .i64)))), (61, some (.ro AA61 (flatR ([[5000, 0, 0]])))), (64, some (.ro AA64 (([2, -1]).map (Value.int .i64)))), (65, some (.ro AA65 (flatR ([[5000, 0, 0]])))), (68, (cond (S.getD 8 false) (some (.row bb68 27 #[.slice none 0 0, .slice none 0 0, .int .i64 0, .slice none 0 0, .slice none 0 0])) (cond (S.getD 7 false) (some (.row bb68 27 #[.slice none 0 0, .slice none 0 0, .int .i64 0, .slice none 0 0, .slice none 0 0])) none)))] w) ?_ ?_ ?_
  ·exact ⟨0, ((((((((((((((Fr.nil hF).co hF (i := 113) (by kernel_rfl)).co hF (i := 112) (by kernel_rfl)).co hF (i := 111) (by kernel_rfl)).co hF (i := 110) (by kernel_rfl)).co hF (i := 109) (by kernel_rfl)).co hF (i := 108) (by kernel_rfl)).co hF (i := 107) (by kernel_rfl)).co hF (i := 13) (by kernel_rfl)).co hF (i := 12) (by kernel_rfl)).co hF (i := 11) (by kernel_rfl)).co hF (i := 10) (by kernel_rfl)).co hF (i := 1) (by kernel_rfl)).co hF (i := 0) (by kernel_rfl)), hM.drew.sub ((((((((((((((((((((((((((((((((((((Sub.nil.co (k := 68) (by kernel_rfl)).co (k := 65) (by kernel_rfl)).co (k := 64) (by kernel_rfl)).co (k := 61) (by kernel_rfl)).co (k := 60) (by kernel_rfl)).co (k := 57) (by kernel_rfl)).co (k := 56) (by kernel_rfl)).co (k := 53) (by kernel_rfl)).co (k := 52) (by kernel_rfl)).co (k := 49) (by kernel_rfl)).co (k := 48) (by kernel_rfl)).co (k := 45) (by kernel_rfl)).co (k := 44) (by kernel_rfl)).co (k := 41) (by kernel_rfl)).co (k := 40) (by kernel_rfl)).co (k := 37) (by kernel_rfl)).co (k := 36) (by kernel_rfl)).co (k := 33) (by kernel_rfl)).co (k := 32) (by kernel_rfl)).co (k := 29) (by kernel_rfl)).co (k := 28) (by kernel_rfl)).co (k := 25) (by kernel_rfl)).co (k := 24) (by kernel_rfl)).co (k := 21) (by kernel_rfl)).co (k := 20) (by kernel_rfl)).co (k := 17) (by kernel_rfl)).co (k := 16) (by kernel_rfl)).co (k := 13) (by kernel_rfl)).co (k := 12) (by kernel_rfl)).co (k := 9) (by kernel_rfl)).co (k := 8) (by kernel_rfl)).co (k := 5) (by kernel_rfl)).co (k := 4) (by kernel_rfl)).co (k := 3) (by kernel_rfl)).co (k := 2) (by kernel_rfl)).co (k := 1) (by kernel_rfl))⟩
  ·refine stC ?_ (stC ?_ (stC ?_ (stC ?_ (stC ?_ (stC ?_ (stC ?_ (stC ?_ (stC ?_ (stC ?_ (stC ?_ (trivial)))))))))))
   ·intro s0 s1 s2 s3 s4 s5 s6 s7 s8 s9 s10 hc hi hp a w hS
    obtain rfl : s0 = false := hi
    obtain ⟨bb68, hF, hM⟩ := hS
    refine eL 108 5 0 (v := .agg #[.slice (some ⟨bb1, 0, none⟩) 2 2, .slice (some ⟨bb2, 0, none⟩) 1 1, .int .i64 4000, .slice AA64 2 cc64, .slice AA65 1 cc65]) hF hM (by kernel_rfl) rfl rfl (by kernel_rfl) (by kernel_rfl) fun a w hF hM => ?_
    exact ⟨bb68, ((hF.repl 7 (by kernel_rfl)).cast (by kernel_rfl)), (hM.cast (by kernel_rfl))⟩
   ·intro s0 s1 s2 s3 s4 s5 s6 s7 s8 s9 s10 hc hi hp a w hS
    obtain rfl : s1 = false := hi
    obtain ⟨bb68, hF, hM⟩ := hS
    refine eM 109 (v := .agg #[.int .i64 9, .int .i64 0, .int .i64 7, .int .i64 100, .int .i64 0]) hF hM (by kernel_rfl) (yld_call (f := 25) (args := #[.int .i64 9, .int .i64 7, .int .i64 100]) hF (by kernel_rfl) (fun _ => by kernel_rfl) (fun w hM => frame_w 9 7 100 w)) fun a w hF hM => ?_
    exact ⟨bb68, ((hF.repl 8 (by kernel_rfl)).cast (by kernel_rfl)), (hM.cast (by kernel_rfl))⟩
   ·intro s0 s1 s2 s3 s4 s5 s6 s7 s8 s9 s10 hc hi hp a w hS
    obtain rfl : s2 = false := hi
    obtain rfl : s1 = true := hp 1 (by kernel_rfl)
    obtain rfl : s0 = true := hp 0 (by kernel_rfl)
    obtain ⟨bb68, hF, hM⟩ := hS
    refine eM 110 (v := .tuple #[.agg #[.slice none 0 0, .slice none 0 0, .int .i64 0, .slice none 0 0, .slice none 0 0], .int .i64 0, .int .i64 2]) hF hM (by kernel_rfl) (yld_call (f := 17) (args := #[.agg #[.slice (some ⟨bb1, 0, none⟩) 2 2, .slice (some ⟨bb2, 0, none⟩) 1 1, .int .i64 4000, .slice AA64 2 cc64, .slice AA65 1 cc65], .int .i64 48, .agg #[.int .i64 9, .int .i64 0, .int .i64 7, .int .i64 100, .int .i64 0], .int .i64 5000]) hF (by kernel_rfl) (fun _ => by kernel_rfl) (fun w hM => ps_err (ps_port (by kernel_rfl) (fun z => absurd z.2 (by omega))) (by decide) (fun q => fiPass_no (some ⟨bb1, 0, none⟩) [[3, 9, 7, 100, 1000, 200, 250], [3, 8, 6, 300, 0, 0, 0]] 2 (some ⟨bb2, 0, none⟩) [[5, 100, 1, 100, 1]] 1 4000 AA64 ([2, -1]) cc64 AA65 ([[5000, 0, 0]]) cc65 48 9 0 7 100 0 5000 w (hM.roRow (k := 1) rfl) (show WR 7 ([[3, 9, 7, 100, 1000, 200, 250], [3, 8, 6, 300, 0, 0, 0]] : List (List Int)) from by unfold WR; simp) (hM.roRow (k := 2) rfl) (show WR 5 ([[5, 100, 1, 100, 1]] : List (List Int)) from by unfold WR; simp) (hM.ok 64 _ rfl) (hM.ok 65 _ rfl) (show WR 3 ([[5000, 0, 0]]) from by unfold WR; simp) q))) fun a w hF hM => ?_
    exact ⟨bb68, ((hF.repl 9 (by kernel_rfl)).cast (by kernel_rfl)), (hM.cast (by kernel_rfl))⟩
   ·intro s0 s1 s2 s3 s4 s5 s6 s7 s8 s9 s10 hc hi hp a w hS
    obtain rfl : s3 = false := hi
    obtain rfl : s2 = true := hp 2 (by kernel_rfl)
    obtain ⟨bb68, hF, hM⟩ := hS
    refine eP 107 (v0 := .tuple #[.agg #[.slice none 0 0, .slice none 0 0, .int .i64 0, .slice none 0 0, .slice none 0 0], .int .i64 0, .int .i64 2]) (v := .tuple #[.agg #[.slice none 0 0, .slice none 0 0, .int .i64 0, .slice none 0 0, .slice none 0 0], .int .i64 0, .int .i64 2]) hF (by kernel_rfl) (fun _ => by kernel_rfl) rfl fun a hF => ?_
    exact ⟨bb68, ((hF.repl 6 (by kernel_rfl)).cast (by kernel_rfl)), (hM.cast (by kernel_rfl))⟩
   ·intro s0 s1 s2 s3 s4 s5 s6 s7 s8 s9 s10 hc hi hp a w hS
    obtain rfl : s4 = false := hi
    obtain rfl : s3 = true := hp 3 (by kernel_rfl)
    obtain ⟨bb68, hF, hM⟩ := hS
    refine eP 111 (v0 := .agg #[.slice none 0 0, .slice none 0 0, .int .i64 0, .slice none 0 0, .slice none 0 0]) (v := .agg #[.slice none 0 0, .slice none 0 0, .int .i64 0, .slice none 0 0, .slice none 0 0]) hF (by kernel_rfl) (fun _ => by kernel_rfl) rfl fun a hF => ?_
    exact ⟨bb68, ((hF.repl 10 (by kernel_rfl)).cast (by kernel_rfl)), (hM.cast (by kernel_rfl))⟩
   ·intro s0 s1 s2 s3 s4 s5 s6 s7 s8 s9 s10 hc hi hp a w hS
    obtain rfl : s5 = false := hi
    obtain rfl : s3 = true := hp 3 (by kernel_rfl)
    obtain ⟨bb68, hF, hM⟩ := hS
    refine eP 112 (v0 := .int .i64 0) (v := .int .i64 0) hF (by kernel_rfl) (fun _ => by kernel_rfl) rfl fun a hF => ?_
    exact ⟨bb68, ((hF.repl 11 (by kernel_rfl)).cast (by kernel_rfl)), (hM.cast (by kernel_rfl))⟩
   ·intro s0 s1 s2 s3 s4 s5 s6 s7 s8 s9 s10 hc hi hp a w hS
    obtain rfl : s6 = false := hi
    obtain rfl : s3 = true := hp 3 (by kernel_rfl)
    obtain ⟨bb68, hF, hM⟩ := hS
    refine eP 113 (v0 := .int .i64 2) (v := .int .i64 2) hF (by kernel_rfl) (fun _ => by kernel_rfl) rfl fun a hF => ?_
    exact ⟨bb68, ((hF.repl 12 (by kernel_rfl)).cast (by kernel_rfl)), (hM.cast (by kernel_rfl))⟩
   ·intro s0 s1 s2 s3 s4 s5 s6 s7 s8 s9 s10 hc hi hp a w hS
    obtain rfl : s7 = false := hi
    obtain rfl : s8 = false := hc.f 8 7 (by kernel_rfl) rfl
    obtain ⟨bb68, hF, hM⟩ := hS
    refine eN 11 68 (t := 27) (fun b => .pointer (some ⟨b, 0, none⟩)) #[.slice none 0 0, .slice none 0 0, .int .i64 0, .slice none 0 0, .slice none 0 0] hF hM (by kernel_rfl) (fun _ => by kernel_rfl) fun bb68 a w hF hM => ?_
    exact ⟨bb68, ((hF.repl 3 (by kernel_rfl)).cast (by kernel_rfl)), ((hM.repl 35 (by kernel_rfl)).cast (by kernel_rfl))⟩
   ·intro s0 s1 s2 s3 s4 s5 s6 s7 s8 s9 s10 hc hi hp a w hS
    obtain rfl : s8 = false := hi
    obtain rfl : s7 = true := hp 7 (by kernel_rfl)
    obtain rfl : s4 = true := hp 4 (by kernel_rfl)
    obtain ⟨bb68, hF, hM⟩ := hS
    refine sStore (i := 68) (off := 0) (cs' := #[.slice none 0 0, .slice none 0 0, .int .i64 0, .slice none 0 0, .slice none 0 0]) hF hM (by kernel_rfl) rfl rfl (by kernel_rfl) (by kernel_rfl) rfl (by kernel_rfl) fun w hM => ?_
    exact ⟨bb68, (hF.cast (by kernel_rfl)), ((hM.repl 35 (by kernel_rfl)).cast (by kernel_rfl))⟩
   ·intro s0 s1 s2 s3 s4 s5 s6 s7 s8 s9 s10 hc hi hp a w hS
    obtain rfl : s9 = false := hi
    obtain rfl : s5 = true := hp 5 (by kernel_rfl)
    obtain ⟨bb68, hF, hM⟩ := hS
    refine eP 12 (v0 := .int .i64 0) (v := .int .i64 0) hF (by kernel_rfl) (fun _ => by kernel_rfl) rfl fun a hF => ?_
    exact ⟨bb68, ((hF.repl 4 (by kernel_rfl)).cast (by kernel_rfl)), (hM.cast (by kernel_rfl))⟩
   ·intro s0 s1 s2 s3 s4 s5 s6 s7 s8 s9 s10 hc hi hp a w hS
    obtain rfl : s10 = false := hi
    obtain rfl : s6 = true := hp 6 (by kernel_rfl)
    obtain ⟨bb68, hF, hM⟩ := hS
    refine eP 13 (v0 := .int .i64 2) (v := .int .i64 2) hF (by kernel_rfl) (fun _ => by kernel_rfl) rfl fun a hF => ?_
    exact ⟨bb68, ((hF.repl 5 (by kernel_rfl)).cast (by kernel_rfl)), (hM.cast (by kernel_rfl))⟩
  ·intro a w hS
   obtain ⟨bb68, hF, hM⟩ := hS
   replace hF : Fr 212 [(0, some (.bool false)), (1, some (.pointer (some ⟨bb5, 0, none⟩))), (10, some (.int .i64 2)), (11, some (.pointer (some ⟨bb68, 0, none⟩))), (12, some (.int .i64 0)), (13, some (.int .i64 2)), (107, some (.tuple #[.agg #[.slice none 0 0, .slice none 0 0, .int .i64 0, .slice none 0 0, .slice none 0 0], .int .i64 0, .int .i64 2])), (108, some (.agg #[.slice (some ⟨bb1, 0, none⟩) 2 2, .slice (some ⟨bb2, 0, none⟩) 1 1, .int .i64 4000, .slice AA64 2 cc64, .slice AA65 1 cc65])), (109, some (.agg #[.int .i64 9, .int .i64 0, .int .i64 7, .int .i64 100, .int .i64 0])), (110, some (.tuple #[.agg #[.slice none 0 0, .slice none 0 0, .int .i64 0, .slice none 0 0, .slice none 0 0], .int .i64 0, .int .i64 2])), (111, some (.agg #[.slice none 0 0, .slice none 0 0, .int .i64 0, .slice none 0 0, .slice none 0 0])), (112, some (.int .i64 0)), (113, some (.int .i64 2))] a := hF.cast (by kernel_rfl)
   replace hM : Mem w0.heap.size w0 [(1, some (.row bb1 57 #[.int .i64 3, .int .i64 9, .int .i64 7, .int .i64 100, .int .i64 1000, .int .i64 200, .int .i64 250, .int .i64 3, .int .i64 8, .int .i64 6, .int .i64 300, .int .i64 0, .int .i64 0, .int .i64 0])), (2, some (.row bb2 69 #[.int .i64 5, .int .i64 100, .int .i64 1, .int .i64 100, .int .i64 1])), (3, some (.ro AA3 (([-1, -1]).map (Value.int .i64)))), (4, some (.ro AA4 (flatR ([[0, 104857600, 104857600]])))), (5, some (.row bb5 27 #[.slice (some ⟨bb1, 0, none⟩) 2 2, .slice (some ⟨bb2, 0, none⟩) 1 1, .int .i64 4000, .slice AA64 2 cc64, .slice AA65 1 cc65])), (8, some (.ro AA8 (([-1, -1]).map (Value.int .i64)))), (9, some (.ro AA9 (flatR ([[0, 104857600, 104857600]])))), (12, some (.ro AA12 (([0, -1]).map (Value.int .i64)))), (13, some (.ro AA13 (flatR ([[0, 104857600, 104857600]])))), (16, some (.ro AA16 (([0, -1]).map (Value.int .i64)))), (17, some (.ro AA17 (flatR ([[0, 104857600, 104857600]])))), (20, some (.ro AA20 (([0, -1]).map (Value.int .i64)))), (21, some (.ro AA21 (flatR ([[0, 104857600, 104857600]])))), (24, some (.ro AA24 (([0, -1]).map (Value.int .i64)))), (25, some (.ro AA25 (flatR ([[0, 104857600, 104857600]])))), (28, some (.ro AA28 (([1, -1]).map (Value.int .i64)))), (29, some (.ro AA29 (flatR ([[0, 104857600, 104857600]])))), (32, some (.ro AA32 (([1, -1]).map (Value.int .i64)))), (33, some (.ro AA33 (flatR ([[0, 104857600, 104857600]])))), (36, some (.ro AA36 (([2, -1]).map (Value.int .i64)))), (37, some (.ro AA37 (flatR ([[0, 104857600, 104857600]])))), (40, some (.ro AA40 (([2, -1]).map (Value.int .i64)))), (41, some (.ro AA41 (flatR ([[0, 104857600, 104857600]])))), (44, some (.ro AA44 (([2, -1]).map (Value.int .i64)))), (45, some (.ro AA45 (flatR ([[0, 104857600, 104857600]])))), (48, some (.ro AA48 (([2, -1]).map (Value.int .i64)))), (49, some (.ro AA49 (flatR ([[0, 104857600, 104857600]])))), (52, some (.ro AA52 (([2, -1]).map (Value.int .i64)))), (53, some (.ro AA53 (flatR ([[0, 104857600, 104857600]])))), (56, some (.ro AA56 (([2, -1]).map (Value.int .i64)))), (57, some (.ro AA57 (flatR ([[5000, 0, 0]])))), (60, some (.ro AA60 (([2, -1]).map (Value.int .i64)))), (61, some (.ro AA61 (flatR ([[5000, 0, 0]])))), (64, some (.ro AA64 (([2, -1]).map (Value.int .i64)))), (65, some (.ro AA65 (flatR ([[5000, 0, 0]])))), (68, some (.row bb68 27 #[.slice none 0 0, .slice none 0 0, .int .i64 0, .slice none 0 0, .slice none 0 0]))] w := hM.cast (by kernel_rfl)
   refine hK139 _ _ ?_
   refine wp_seq_k fun K140 hK140 => ?_
   refine rF (by kernel_rfl) (by kernel_rfl) (fun S a w => ∃ bb69 : Nat, Fr 212 [(0, some (.bool false)), (1, some (.pointer (some ⟨bb5, 0, none⟩))), (10, some (.int .i64 2)), (13, some (.int .i64 2)), (14, (cond (S.getD 7 false) (some (.pointer (some ⟨bb69, 0, none⟩))) none)), (15, (cond (S.getD 9 false) (some (.int .i64 0)) none)), (16, (cond (S.getD 10 false) (some (.int .i64 460)) none)), (114, (cond (S.getD 3 false) (some (.tuple #[.agg #[.slice none 0 0, .slice none 0 0, .int .i64 0, .slice none 0 0, .slice none 0 0], .int .i64 0, .int .i64 460])) none)), (115, (cond (S.getD 0 false) (some (.agg #[.slice (some ⟨bb1, 0, none⟩) 2 2, .slice (some ⟨bb2, 0, none⟩) 1 1, .int .i64 4000, .slice AA64 2 cc64, .slice AA65 1 cc65])) none)), (116, (cond (S.getD 1 false) (some (.agg #[.int .i64 9, .int .i64 0, .int .i64 8, .int .i64 100, .int .i64 0])) none)), (117, (cond (S.getD 2 false) (some (.tuple #[.agg #[.slice none 0 0, .slice none 0 0, .int .i64 0, .slice none 0 0, .slice none 0 0], .int .i64 0, .int .i64 460])) none)), (118, (cond (S.getD 4 false) (some (.agg #[.slice none 0 0, .slice none 0 0, .int .i64 0, .slice none 0 0, .slice none 0 0])) none)), (119, (cond (S.getD 5 false) (some (.int .i64 0)) none)), (120, (cond (S.getD 6 false) (some (.int .i64 460)) none))] a ∧ Mem w0.heap.size w0 [(1, some (.row bb1 57 #[.int .i64 3, .int .i64 9, .int .i64 7, .int .i64 100, .int .i64 1000, .int .i64 200, .int .i64 250, .int .i64 3, .int .i64 8, .int .i64 6, .int .i64 300, .int .i64 0, .int .i64 0, .int .i64 0])), (2, some (.row bb2 69 #[.int .i64 5, .int .i64 100, .int .i64 1, .int .i64 100, .int .i64 1])), (3, some (.ro AA3 (([-1, -1]).map (Value.int .i64)))), (4, some (.ro AA4 (flatR ([[0, 104857600, 104857600]])))), (5, some (.row bb5 27 #[.slice (some ⟨bb1, 0, none⟩) 2 2, .slice (some ⟨bb2, 0, none⟩) 1 1, .int .i64 4000, .slice AA64 2 cc64, .slice AA65 1 cc65])), (8, some (.ro AA8 (([-1, -1]).map (Value.int .i64)))), (9, some (.ro AA9 (flatR ([[0, 104857600, 104857600]])))), (12, some (.ro AA12 (([0, -1]).map (Value.int .i64)))), (13, some (.ro AA13 (flatR ([[0, 104857600, 104857600]])))), (16, some (.ro AA16 (([0, -1]).map (Value.int .i64)))), (17, some (.ro AA17 (flatR ([[0, 104857600, 104857600]])))), (20, some (.ro AA20 (([0, -1]).map (Value.int .i64)))), (21, some (.ro AA21 (flatR ([[0, 104857600, 104857600]])))), (24, some (.ro AA24 (([0, -1]).map (Value.int .i64)))), (25, some (.ro AA25 (flatR ([[0, 104857600, 104857600]])))), (28, some (.ro AA28 (([1, -1]).map (Value.int .i64)))), (29, some (.ro AA29 (flatR ([[0, 104857600, 104857600]])))), (32, some (.ro AA32 (([1, -1]).map (Value.int .i64)))), (33, some (.ro AA33 (flatR ([[0, 104857600, 104857600]])))), (36, some (.ro AA36 (([2, -1]).map (Value.int .i64)))), (37, some (.ro AA37 (flatR ([[0, 104857600, 104857600]])))), (40, some (.ro AA40 (([2, -1]).map (Value.int .i64)))), (41, some (.ro AA41 (flatR ([[0, 104857600, 104857600]])))), (44, some (.ro AA44 (([2, -1]).map (Value.int .i64)))), (45, some (.ro AA45 (flatR ([[0, 104857600, 104857600]])))), (48, some (.ro AA48 (([2, -1]).map (Value.int .i64)))), (49, some (.ro AA49 (flatR ([[0, 104857600, 104857600]])))), (52, some (.ro AA52 (([2, -1]).map (Value.int .i64)))), (53, some (.ro AA53 (flatR ([[0, 104857600, 104857600]])))), (56, some (.ro AA56 (([2, -1]).map (Value.int .i64)))), (57, some (.ro AA57 (flatR ([[5000, 0, 0]])))), (60, some (.ro AA60 (([2, -1]).map (Value.int .i64)))), (61, some (.ro AA61 (flatR ([[5000, 0, 0]])))), (64, some (.ro AA64 (([2, -1]).map (Value.int .i64)))), (65, some (.ro AA65 (flatR ([[5000, 0, 0]])))), (69, (cond (S.getD 8 false) (some (.row bb69 27 #[.slice none 0 0, .slice none 0 0, .int .i64 0, .slice none 0 0, .slice none 0 0])) (cond (S.getD 7 false) (some (.row bb69 27 #[.slice none 0 0, .slice none 0 0, .int .i64 0, .slice none 0 0, .slice none 0 0])) none)))] w) ?_ ?_ ?_
   ·exact ⟨0, (((((((((((((((Fr.nil hF).co hF (i := 120) (by kernel_rfl)).co hF (i := 119) (by kernel_rfl)).co hF (i := 118) (by kernel_rfl)).co hF (i := 117) (by kernel_rfl)).co hF (i := 116) (by kernel_rfl)).co hF (i := 115) (by kernel_rfl)).co hF (i := 114) (by kernel_rfl)).co hF (i := 16) (by kernel_rfl)).co hF (i := 15) (by kernel_rfl)).co hF (i := 14) (by kernel_rfl)).co hF (i := 13) (by kernel_rfl)).co hF (i := 10) (by kernel_rfl)).co hF (i := 1) (by kernel_rfl)).co hF (i := 0) (by kernel_rfl)), hM.drew.sub ((((((((((((((((((((((((((((((((((((Sub.nil.co (k := 69) (by kernel_rfl)).co (k := 65) (by kernel_rfl)).co (k := 64) (by kernel_rfl)).co (k := 61) (by kernel_rfl)).co (k := 60) (by kernel_rfl)).co (k := 57) (by kernel_rfl)).co (k := 56) (by kernel_rfl)).co (k := 53) (by kernel_rfl)).co (k := 52) (by kernel_rfl)).co (k := 49) (by kernel_rfl)).co (k := 48) (by kernel_rfl)).co (k := 45) (by kernel_rfl)).co (k := 44) (by kernel_rfl)).co (k := 41) (by kernel_rfl)).co (k := 40) (by kernel_rfl)).co (k := 37) (by kernel_rfl)).co (k := 36) (by kernel_rfl)).co (k := 33) (by kernel_rfl)).co (k := 32) (by kernel_rfl)).co (k := 29) (by kernel_rfl)).co (k := 28) (by kernel_rfl)).co (k := 25) (by kernel_rfl)).co (k := 24) (by kernel_rfl)).co (k := 21) (by kernel_rfl)).co (k := 20) (by kernel_rfl)).co (k := 17) (by kernel_rfl)).co (k := 16) (by kernel_rfl)).co (k := 13) (by kernel_rfl)).co (k := 12) (by kernel_rfl)).co (k := 9) (by kernel_rfl)).co (k := 8) (by kernel_rfl)).co (k := 5) (by kernel_rfl)).co (k := 4) (by kernel_rfl)).co (k := 3) (by kernel_rfl)).co (k := 2) (by kernel_rfl)).co (k := 1) (by kernel_rfl))⟩
   ·refine stC ?_ (stC ?_ (stC ?_ (stC ?_ (stC ?_ (stC ?_ (stC ?_ (stC ?_ (stC ?_ (stC ?_ (stC ?_ (trivial)))))))))))
    ·intro s0 s1 s2 s3 s4 s5 s6 s7 s8 s9 s10 hc hi hp a w hS
     obtain rfl : s0 = false := hi
     obtain ⟨bb69, hF, hM⟩ := hS
     refine eL 115 5 0 (v := .agg #[.slice (some ⟨bb1, 0, none⟩) 2 2, .slice (some ⟨bb2, 0, none⟩) 1 1, .int .i64 4000, .slice AA64 2 cc64, .slice AA65 1 cc65]) hF hM (by kernel_rfl) rfl rfl (by kernel_rfl) (by kernel_rfl) fun a w hF hM => ?_
     exact ⟨bb69, ((hF.repl 8 (by kernel_rfl)).cast (by kernel_rfl)), (hM.cast (by kernel_rfl))⟩
    ·intro s0 s1 s2 s3 s4 s5 s6 s7 s8 s9 s10 hc hi hp a w hS
     obtain rfl : s1 = false := hi
     obtain ⟨bb69, hF, hM⟩ := hS
     refine eM 116 (v := .agg #[.int .i64 9, .int .i64 0, .int .i64 8, .int .i64 100, .int .i64 0]) hF hM (by kernel_rfl) (yld_call (f := 25) (args := #[.int .i64 9, .int .i64 8, .int .i64 100]) hF (by kernel_rfl) (fun _ => by kernel_rfl) (fun w hM => frame_w 9 8 100 w)) fun a w hF hM => ?_
     exact ⟨bb69, ((hF.repl 9 (by kernel_rfl)).cast (by kernel_rfl)), (hM.cast (by kernel_rfl))⟩
    ·intro s0 s1 s2 s3 s4 s5 s6 s7 s8 s9 s10 hc hi hp a w hS
     obtain rfl : s2 = false := hi
     obtain rfl : s1 = true := hp 1 (by kernel_rfl)
     obtain rfl : s0 = true := hp 0 (by kernel_rfl)
     obtain ⟨bb69, hF, hM⟩ := hS
     refine eM 117 (v := .tuple #[.agg #[.slice none 0 0, .slice none 0 0, .int .i64 0, .slice none 0 0, .slice none 0 0], .int .i64 0, .int .i64 460]) hF hM (by kernel_rfl) (yld_call (f := 17) (args := #[.agg #[.slice (some ⟨bb1, 0, none⟩) 2 2, .slice (some ⟨bb2, 0, none⟩) 1 1, .int .i64 4000, .slice AA64 2 cc64, .slice AA65 1 cc65], .int .i64 3, .agg #[.int .i64 9, .int .i64 0, .int .i64 8, .int .i64 100, .int .i64 0], .int .i64 5000]) hF (by kernel_rfl) (fun _ => by kernel_rfl) (fun w hM => ps_err (ps_460 (by kernel_rfl) ⟨(by omega), (by omega)⟩ (by kernel_rfl)) (by decide) (fun q => fiPass_no (some ⟨bb1, 0, none⟩) [[3, 9, 7, 100, 1000, 200, 250], [3, 8, 6, 300, 0, 0, 0]] 2 (some ⟨bb2, 0, none⟩) [[5, 100, 1, 100, 1]] 1 4000 AA64 ([2, -1]) cc64 AA65 ([[5000, 0, 0]]) cc65 3 9 0 8 100 0 5000 w (hM.roRow (k := 1) rfl) (show WR 7 ([[3, 9, 7, 100, 1000, 200, 250], [3, 8, 6, 300, 0, 0, 0]] : List (List Int)) from by unfold WR; simp) (hM.roRow (k := 2) rfl) (show WR 5 ([[5, 100, 1, 100, 1]] : List (List Int)) from by unfold WR; simp) (hM.ok 64 _ rfl) (hM.ok 65 _ rfl) (show WR 3 ([[5000, 0, 0]]) from by unfold WR; simp) q))) fun a w hF hM => ?_
     exact ⟨bb69, ((hF.repl 10 (by kernel_rfl)).cast (by kernel_rfl)), (hM.cast (by kernel_rfl))⟩
    ·intro s0 s1 s2 s3 s4 s5 s6 s7 s8 s9 s10 hc hi hp a w hS
     obtain rfl : s3 = false := hi
     obtain rfl : s2 = true := hp 2 (by kernel_rfl)
     obtain ⟨bb69, hF, hM⟩ := hS
     refine eP 114 (v0 := .tuple #[.agg #[.slice none 0 0, .slice none 0 0, .int .i64 0, .slice none 0 0, .slice none 0 0], .int .i64 0, .int .i64 460]) (v := .tuple #[.agg #[.slice none 0 0, .slice none 0 0, .int .i64 0, .slice none 0 0, .slice none 0 0], .int .i64 0, .int .i64 460]) hF (by kernel_rfl) (fun _ => by kernel_rfl) rfl fun a hF => ?_
     exact ⟨bb69, ((hF.repl 7 (by kernel_rfl)).cast (by kernel_rfl)), (hM.cast (by kernel_rfl))⟩
    ·intro s0 s1 s2 s3 s4 s5 s6 s7 s8 s9 s10 hc hi hp a w hS
     obtain rfl : s4 = false := hi
     obtain rfl : s3 = true := hp 3 (by kernel_rfl)
     obtain ⟨bb69, hF, hM⟩ := hS
     refine eP 118 (v0 := .agg #[.slice none 0 0, .slice none 0 0, .int .i64 0, .slice none 0 0, .slice none 0 0]) (v := .agg #[.slice none 0 0, .slice none 0 0, .int .i64 0, .slice none 0 0, .slice none 0 0]) hF (by kernel_rfl) (fun _ => by kernel_rfl) rfl fun a hF => ?_
     exact ⟨bb69, ((hF.repl 11 (by kernel_rfl)).cast (by kernel_rfl)), (hM.cast (by kernel_rfl))⟩
    ·intro s0 s1 s2 s3 s4 s5 s6 s7 s8 s9 s10 hc hi hp a w hS
     obtain rfl : s5 = false := hi
     obtain rfl : s3 = true := hp 3 (by kernel_rfl)
     obtain ⟨bb69, hF, hM⟩ := hS
     refine eP 119 (v0 := .int .i64 0) (v := .int .i64 0) hF (by kernel_rfl) (fun _ => by kernel_rfl) rfl fun a hF => ?_
     exact ⟨bb69, ((hF.repl 12 (by kernel_rfl)).cast (by kernel_rfl)), (hM.cast (by kernel_rfl))⟩
    ·intro s0 s1 s2 s3 s4 s5 s6 s7 s8 s9 s10 hc hi hp a w hS
     obtain rfl : s6 = false := hi
     obtain rfl : s3 = true := hp 3 (by kernel_rfl)
     obtain ⟨bb69, hF, hM⟩ := hS
     refine eP 120 (v0 := .int .i64 460) (v := .int .i64 460) hF (by kernel_rfl) (fun _ => by kernel_rfl) rfl fun a hF => ?_
     exact ⟨bb69, ((hF.repl 13 (by kernel_rfl)).cast (by kernel_rfl)), (hM.cast (by kernel_rfl))⟩
    ·intro s0 s1 s2 s3 s4 s5 s6 s7 s8 s9 s10 hc hi hp a w hS
     obtain rfl : s7 = false := hi
     obtain rfl : s8 = false := hc.f 8 7 (by kernel_rfl) rfl
     obtain ⟨bb69, hF, hM⟩ := hS
     refine eN 14 69 (t := 27) (fun b => .pointer (some ⟨b, 0, none⟩)) #[.slice none 0 0, .slice none 0 0, .int .i64 0, .slice none 0 0, .slice none 0 0] hF hM (by kernel_rfl) (fun _ => by kernel_rfl) fun bb69 a w hF hM => ?_
     exact ⟨bb69, ((hF.repl 4 (by kernel_rfl)).cast (by kernel_rfl)), ((hM.repl 35 (by kernel_rfl)).cast (by kernel_rfl))⟩
    ·intro s0 s1 s2 s3 s4 s5 s6 s7 s8 s9 s10 hc hi hp a w hS
     obtain rfl : s8 = false := hi
     obtain rfl : s7 = true := hp 7 (by kernel_rfl)
     obtain rfl : s4 = true := hp 4 (by kernel_rfl)
     obtain ⟨bb69, hF, hM⟩ := hS
     refine sStore (i := 69) (off := 0) (cs' := #[.slice none 0 0, .slice none 0 0, .int .i64 0, .slice none 0 0, .slice none 0 0]) hF hM (by kernel_rfl) rfl rfl (by kernel_rfl) (by kernel_rfl) rfl (by kernel_rfl) fun w hM => ?_
     exact ⟨bb69, (hF.cast (by kernel_rfl)), ((hM.repl 35 (by kernel_rfl)).cast (by kernel_rfl))⟩
    ·intro s0 s1 s2 s3 s4 s5 s6 s7 s8 s9 s10 hc hi hp a w hS
     obtain rfl : s9 = false := hi
     obtain rfl : s5 = true := hp 5 (by kernel_rfl)
     obtain ⟨bb69, hF, hM⟩ := hS
     refine eP 15 (v0 := .int .i64 0) (v := .int .i64 0) hF (by kernel_rfl) (fun _ => by kernel_rfl) rfl fun a hF => ?_
     exact ⟨bb69, ((hF.repl 5 (by kernel_rfl)).cast (by kernel_rfl)), (hM.cast (by kernel_rfl))⟩
    ·intro s0 s1 s2 s3 s4 s5 s6 s7 s8 s9 s10 hc hi hp a w hS
     obtain rfl : s10 = false := hi
     obtain rfl : s6 = true := hp 6 (by kernel_rfl)
     obtain ⟨bb69, hF, hM⟩ := hS
     refine eP 16 (v0 := .int .i64 460) (v := .int .i64 460) hF (by kernel_rfl) (fun _ => by kernel_rfl) rfl fun a hF => ?_
     exact ⟨bb69, ((hF.repl 6 (by kernel_rfl)).cast (by kernel_rfl)), (hM.cast (by kernel_rfl))⟩
   ·intro a w hS
    obtain ⟨bb69, hF, hM⟩ := hS
    replace hF : Fr 212 [(0, some (.bool false)), (1, some (.pointer (some ⟨bb5, 0, none⟩))), (10, some (.int .i64 2)), (13, some (.int .i64 2)), (14, some (.pointer (some ⟨bb69, 0, none⟩))), (15, some (.int .i64 0)), (16, some (.int .i64 460)), (114, some (.tuple #[.agg #[.slice none 0 0, .slice none 0 0, .int .i64 0, .slice none 0 0, .slice none 0 0], .int .i64 0, .int .i64 460])), (115, some (.agg #[.slice (some ⟨bb1, 0, none⟩) 2 2, .slice (some ⟨bb2, 0, none⟩) 1 1, .int .i64 4000, .slice AA64 2 cc64, .slice AA65 1 cc65])), (116, some (.agg #[.int .i64 9, .int .i64 0, .int .i64 8, .int .i64 100, .int .i64 0])), (117, some (.tuple #[.agg #[.slice none 0 0, .slice none 0 0, .int .i64 0, .slice none 0 0, .slice none 0 0], .int .i64 0, .int .i64 460])), (118, some (.agg #[.slice none 0 0, .slice none 0 0, .int .i64 0, .slice none 0 0, .slice none 0 0])), (119, some (.int .i64 0)), (120, some (.int .i64 460))] a := hF.cast (by kernel_rfl)
    replace hM : Mem w0.heap.size w0 [(1, some (.row bb1 57 #[.int .i64 3, .int .i64 9, .int .i64 7, .int .i64 100, .int .i64 1000, .int .i64 200, .int .i64 250, .int .i64 3, .int .i64 8, .int .i64 6, .int .i64 300, .int .i64 0, .int .i64 0, .int .i64 0])), (2, some (.row bb2 69 #[.int .i64 5, .int .i64 100, .int .i64 1, .int .i64 100, .int .i64 1])), (3, some (.ro AA3 (([-1, -1]).map (Value.int .i64)))), (4, some (.ro AA4 (flatR ([[0, 104857600, 104857600]])))), (5, some (.row bb5 27 #[.slice (some ⟨bb1, 0, none⟩) 2 2, .slice (some ⟨bb2, 0, none⟩) 1 1, .int .i64 4000, .slice AA64 2 cc64, .slice AA65 1 cc65])), (8, some (.ro AA8 (([-1, -1]).map (Value.int .i64)))), (9, some (.ro AA9 (flatR ([[0, 104857600, 104857600]])))), (12, some (.ro AA12 (([0, -1]).map (Value.int .i64)))), (13, some (.ro AA13 (flatR ([[0, 104857600, 104857600]])))), (16, some (.ro AA16 (([0, -1]).map (Value.int .i64)))), (17, some (.ro AA17 (flatR ([[0, 104857600, 104857600]])))), (20, some (.ro AA20 (([0, -1]).map (Value.int .i64)))), (21, some (.ro AA21 (flatR ([[0, 104857600, 104857600]])))), (24, some (.ro AA24 (([0, -1]).map (Value.int .i64)))), (25, some (.ro AA25 (flatR ([[0, 104857600, 104857600]])))), (28, some (.ro AA28 (([1, -1]).map (Value.int .i64)))), (29, some (.ro AA29 (flatR ([[0, 104857600, 104857600]])))), (32, some (.ro AA32 (([1, -1]).map (Value.int .i64)))), (33, some (.ro AA33 (flatR ([[0, 104857600, 104857600]])))), (36, some (.ro AA36 (([2, -1]).map (Value.int .i64)))), (37, some (.ro AA37 (flatR ([[0, 104857600, 104857600]])))), (40, some (.ro AA40 (([2, -1]).map (Value.int .i64)))), (41, some (.ro AA41 (flatR ([[0, 104857600, 104857600]])))), (44, some (.ro AA44 (([2, -1]).map (Value.int .i64)))), (45, some (.ro AA45 (flatR ([[0, 104857600, 104857600]])))), (48, some (.ro AA48 (([2, -1]).map (Value.int .i64)))), (49, some (.ro AA49 (flatR ([[0, 104857600, 104857600]])))), (52, some (.ro AA52 (([2, -1]).map (Value.int .i64)))), (53, some (.ro AA53 (flatR ([[0, 104857600, 104857600]])))), (56, some (.ro AA56 (([2, -1]).map (Value.int .i64)))), (57, some (.ro AA57 (flatR ([[5000, 0, 0]])))), (60, some (.ro AA60 (([2, -1]).map (Value.int .i64)))), (61, some (.ro AA61 (flatR ([[5000, 0, 0]])))), (64, some (.ro AA64 (([2, -1]).map (Value.int .i64)))), (65, some (.ro AA65 (flatR ([[5000, 0, 0]])))), (69, some (.row bb69 27 #[.slice none 0 0, .slice none 0 0, .int .i64 0, .slice none 0 0, .slice none 0 0]))] w := hM.cast (by kernel_rfl)
    refine hK140 _ _ ?_
    refine wp_seq_k fun K141 hK141 => ?_
    refine wp_region_lit ?_
    refine wl (sC (f := 23) (args := #[]) hF (by kernel_rfl) rfl (by decide) (by kernel_rfl) (fun _ => by kernel_rfl) ?_)
    refine enterK 4 Try.func23 rfl rfl rfl ?_
    intro a1 hF1 QR142 hR142 hNR142
    refine wp_seq_k fun K143 hK143 => ?_
    refine wp_region_lit ?_
    refine sB 1 [(0, .slice none 0 0)] hF1 (by kernel_rfl) fun a1 hF1 => ?_
    refine wpList_nil ?_
    refine hK143 _ _ ?_
    refine wp_seq_k fun K144 hK144 => ?_
    refine wp_region_lit ?_
    refine sB 2 [(1, .agg #[.int .i64 3, .int .i64 9, .int .i64 7, .int .i64 100, .int .i64 1000, .int .i64 200, .int .i64 250]), (2, .agg #[.int .i64 3, .int .i64 8, .int .i64 6, .int .i64 300, .int .i64 0, .int .i64 0, .int .i64 0])] hF1 (by kernel_rfl) fun a1 hF1 => ?_
    refine wl (eN 3 70 (t := 57) (fun b => .slice (some ⟨b, 0, none⟩) 2 2) #[.int .i64 3, .int .i64 9, .int .i64 7, .int .i64 100, .int .i64 1000, .int .i64 200, .int .i64 250, .int .i64 3, .int .i64 8, .int .i64 6, .int .i64 300, .int .i64 0, .int .i64 0, .int .i64 0] hF1 hM (by kernel_rfl) (fun _ => by kernel_rfl) fun bb70 a1 w hF1 hM => ?_)
    refine sB 1 [(0, .slice (some ⟨bb70, 0, none⟩) 2 2)] hF1 (by kernel_rfl) fun a1 hF1 => ?_
    refine wpList_nil ?_
    refine hK144 _ _ ?_
    refine wp_ret ?_
    refine hR142 _ _ ?_
    refine ret_of hF1 hM (.tmp rfl (.nil)) ⟨_, rfl, ?_⟩
    intro a hF
    refine sB 1 [(17, .slice (some ⟨bb70, 0, none⟩) 2 2)] hF (by kernel_rfl) fun a hF => ?_
    refine wpList_nil ?_
    refine hK141 _ _ ?_
    refine wp_seq_k fun K145 hK145 => ?_
    refine wp_region_lit ?_
    refine sB 3 [(122, .slice (some ⟨bb70, 0, none⟩) 2 2), (123, .pointer (some ⟨bb70, 0, none⟩)), (124, .pointer (some ⟨bb70, 6, none⟩))] hF (by kernel_rfl) fun a hF => ?_
    refine wl (sStore (i := 70) (off := 6) (cs' := #[.int .i64 3, .int .i64 9, .int .i64 7, .int .i64 100, .int .i64 1000, .int .i64 200, .int .i64 1200, .int .i64 3, .int .i64 8, .int .i64 6, .int .i64 300, .int .i64 0, .int .i64 0, .int .i64 0]) hF hM (by kernel_rfl) rfl rfl (by kernel_rfl) (by kernel_rfl) rfl (by kernel_rfl) fun w hM => ?_)
    refine wpList_nil ?_
    refine hK145 _ _ ?_
    refine wp_seq_k fun K146 hK146 => ?_
    refine wp_region_lit ?_
    refine sB 1 [(126, .slice (some ⟨bb70, 0, none⟩) 2 2)] hF (by kernel_rfl) fun a hF => ?_
    refine wl (eM 127 (v := .tuple #[.agg #[.slice none 0 0, .slice none 0 0, .int .i64 0, .slice none 0 0, .slice none 0 0], .int .i64 2]) hF hM (by kernel_rfl) (yld_call (f := 13) (args := #[.slice (some ⟨bb70, 0, none⟩) 2 2, .slice none 0 0]) hF (by kernel_rfl) (fun _ => by kernel_rfl) (fun w hM => fiNew_no (some ⟨bb70, 0, none⟩) [[3, 9, 7, 100, 1000, 200, 1200], [3, 8, 6, 300, 0, 0, 0]] 2 none ([] : List (List Int)) 0 w (hM.roRow (k := 70) rfl) (show WR 7 ([[3, 9, 7, 100, 1000, 200, 1200], [3, 8, 6, 300, 0, 0, 0]] : List (List Int)) from by unfold WR; simp) Ro.nil WR.nil (by kernel_rfl))) fun a w hF hM => ?_)
    refine sB 3 [(125, .tuple #[.agg #[.slice none 0 0, .slice none 0 0, .int .i64 0, .slice none 0 0, .slice none 0 0], .int .i64 2]), (128, .agg #[.slice none 0 0, .slice none 0 0, .int .i64 0, .slice none 0 0, .slice none 0 0]), (129, .int .i64 2)] hF (by kernel_rfl) fun a hF => ?_
    refine wl (eN 18 71 (t := 27) (fun b => .pointer (some ⟨b, 0, none⟩)) #[.slice none 0 0, .slice none 0 0, .int .i64 0, .slice none 0 0, .slice none 0 0] hF hM (by kernel_rfl) (fun _ => by kernel_rfl) fun bb71 a w hF hM => ?_)
    refine wl (sStore (i := 71) (off := 0) (cs' := #[.slice none 0 0, .slice none 0 0, .int .i64 0, .slice none 0 0, .slice none 0 0]) hF hM (by kernel_rfl) rfl rfl (by kernel_rfl) (by kernel_rfl) rfl (by kernel_rfl) fun w hM => ?_)
    refine sB 1 [(19, .int .i64 2)] hF (by kernel_rfl) fun a hF => ?_
    refine wpList_nil ?_
    refine hK146 _ _ ?_
    refine wp_seq_k fun K147 hK147 => ?_
    refine wp_region_lit ?_
    refine sB 3 [(130, .slice (some ⟨bb70, 0, none⟩) 2 2), (131, .pointer (some ⟨bb70, 0, none⟩)), (132, .pointer (some ⟨bb70, 6, none⟩))] hF (by kernel_rfl) fun a hF => ?_
    refine wl (sStore (i := 70) (off := 6) (cs' := #[.int .i64 3, .int .i64 9, .int .i64 7, .int .i64 100, .int .i64 1000, .int .i64 200, .int .i64 199, .int .i64 3, .int .i64 8, .int .i64 6, .int .i64 300, .int .i64 0, .int .i64 0, .int .i64 0]) hF hM (by kernel_rfl) rfl rfl (by kernel_rfl) (by kernel_rfl) rfl (by kernel_rfl) fun w hM => ?_)
    refine wpList_nil ?_
    refine hK147 _ _ ?_
    refine wp_seq_k fun K148 hK148 => ?_
    refine wp_region_lit ?_
    refine sB 1 [(134, .slice (some ⟨bb70, 0, none⟩) 2 2)] hF (by kernel_rfl) fun a hF => ?_
    refine wl (eM 135 (v := .tuple #[.agg #[.slice none 0 0, .slice none 0 0, .int .i64 0, .slice none 0 0, .slice none 0 0], .int .i64 2]) hF hM (by kernel_rfl) (yld_call (f := 13) (args := #[.slice (some ⟨bb70, 0, none⟩) 2 2, .slice none 0 0]) hF (by kernel_rfl) (fun _ => by kernel_rfl) (fun w hM => fiNew_no (some ⟨bb70, 0, none⟩) [[3, 9, 7, 100, 1000, 200, 199], [3, 8, 6, 300, 0, 0, 0]] 2 none ([] : List (List Int)) 0 w (hM.roRow (k := 70) rfl) (show WR 7 ([[3, 9, 7, 100, 1000, 200, 199], [3, 8, 6, 300, 0, 0, 0]] : List (List Int)) from by unfold WR; simp) Ro.nil WR.nil (by kernel_rfl))) fun a w hF hM => ?_)
    refine sB 3 [(133, .tuple #[.agg #[.slice none 0 0, .slice none 0 0, .int .i64 0, .slice none 0 0, .slice none 0 0], .int .i64 2]), (136, .agg #[.slice none 0 0, .slice none 0 0, .int .i64 0, .slice none 0 0, .slice none 0 0]), (137, .int .i64 2)] hF (by kernel_rfl) fun a hF => ?_
    refine wl (eN 20 72 (t := 27) (fun b => .pointer (some ⟨b, 0, none⟩)) #[.slice none 0 0, .slice none 0 0, .int .i64 0, .slice none 0 0, .slice none 0 0] hF hM (by kernel_rfl) (fun _ => by kernel_rfl) fun bb72 a w hF hM => ?_)
    refine wl (sStore (i := 72) (off := 0) (cs' := #[.slice none 0 0, .slice none 0 0, .int .i64 0, .slice none 0 0, .slice none 0 0]) hF hM (by kernel_rfl) rfl rfl (by kernel_rfl) (by kernel_rfl) rfl (by kernel_rfl) fun w hM => ?_)
    refine sB 1 [(21, .int .i64 2)] hF (by kernel_rfl) fun a hF => ?_
    refine wpList_nil ?_
    refine hK148 _ _ ?_
    refine wp_seq_k fun K149 hK149 => ?_
    refine wp_region_lit ?_
    refine wl (sC (f := 23) (args := #[]) hF (by kernel_rfl) rfl (by decide) (by kernel_rfl) (fun _ => by kernel_rfl) ?_)
    refine enterK 4 Try.func23 rfl rfl rfl ?_
    intro a1 hF1 QR150 hR150 hNR150
    refine wp_seq_k fun K151 hK151 => ?_
    refine wp_region_lit ?_
    refine sB 1 [(0, .slice none 0 0)] hF1 (by kernel_rfl) fun a1 hF1 => ?_
    refine wpList_nil ?_
    refine hK151 _ _ ?_
    refine wp_seq_k fun K152 hK152 => ?_
    refine wp_region_lit ?_
    refine sB 2 [(1, .agg #[.int .i64 3, .int .i64 9, .int .i64 7, .int .i64 100, .int .i64 1000, .int .i64 200, .int .i64 250]), (2, .agg #[.int .i64 3, .int .i64 8, .int .i64 6, .int .i64 300, .int .i64 0, .int .i64 0, .int .i64 0])] hF1 (by kernel_rfl) fun a1 hF1 => ?_
    refine wl (eN 3 73 (t := 57) (fun b => .slice (some ⟨b, 0, none⟩) 2 2) #[.int .i64 3, .int .i64 9, .int .i64 7, .int .i64 100, .int .i64 1000, .int .i64 200, .int .i64 250, .int .i64 3, .int .i64 8, .int .i64 6, .int .i64 300, .int .i64 0, .int .i64 0, .int .i64 0] hF1 hM (by kernel_rfl) (fun _ => by kernel_rfl) fun bb73 a1 w hF1 hM => ?_)
    refine sB 1 [(0, .slice (some ⟨bb73, 0, none⟩) 2 2)] hF1 (by kernel_rfl) fun a1 hF1 => ?_
    refine wpList_nil ?_
    refine hK152 _ _ ?_
    refine wp_ret ?_
    refine hR150 _ _ ?_
    refine ret_of hF1 hM (.tmp rfl (.nil)) ⟨_, rfl, ?_⟩
    intro a hF
    refine sB 1 [(22, .slice (some ⟨bb73, 0, none⟩) 2 2)] hF (by kernel_rfl) fun a hF => ?_
    refine wpList_nil ?_
    refine hK149 _ _ ?_
    refine wp_seq_k fun K153 hK153 => ?_
    refine wp_region_lit ?_
    refine sB 3 [(139, .slice (some ⟨bb73, 0, none⟩) 2 2), (140, .pointer (some ⟨bb73, 7, none⟩)), (141, .pointer (some ⟨bb73, 11, none⟩))] hF (by kernel_rfl) fun a hF => ?_
    refine wl (sStore (i := 73) (off := 11) (cs' := #[.int .i64 3, .int .i64 9, .int .i64 7, .int .i64 100, .int .i64 1000, .int .i64 200, .int .i64 250, .int .i64 3, .int .i64 8, .int .i64 6, .int .i64 300, .int .i64 1, .int .i64 0, .int .i64 0]) hF hM (by kernel_rfl) rfl rfl (by kernel_rfl) (by kernel_rfl) rfl (by kernel_rfl) fun w hM => ?_)
    refine wpList_nil ?_
    refine hK153 _ _ ?_
    refine wp_seq_k fun K154 hK154 => ?_
    refine wp_region_lit ?_
    refine sB 1 [(143, .slice (some ⟨bb73, 0, none⟩) 2 2)] hF (by kernel_rfl) fun a hF => ?_
    refine wl (eM 144 (v := .tuple #[.agg #[.slice none 0 0, .slice none 0 0, .int .i64 0, .slice none 0 0, .slice none 0 0], .int .i64 2]) hF hM (by kernel_rfl) (yld_call (f := 13) (args := #[.slice (some ⟨bb73, 0, none⟩) 2 2, .slice none 0 0]) hF (by kernel_rfl) (fun _ => by kernel_rfl) (fun w hM => fiNew_no (some ⟨bb73, 0, none⟩) [[3, 9, 7, 100, 1000, 200, 250], [3, 8, 6, 300, 1, 0, 0]] 2 none ([] : List (List Int)) 0 w (hM.roRow (k := 73) rfl) (show WR 7 ([[3, 9, 7, 100, 1000, 200, 250], [3, 8, 6, 300, 1, 0, 0]] : List (List Int)) from by unfold WR; simp) Ro.nil WR.nil (by kernel_rfl))) fun a w hF hM => ?_)
    refine sB 3 [(142, .tuple #[.agg #[.slice none 0 0, .slice none 0 0, .int .i64 0, .slice none 0 0, .slice none 0 0], .int .i64 2]), (145, .agg #[.slice none 0 0, .slice none 0 0, .int .i64 0, .slice none 0 0, .slice none 0 0]), (146, .int .i64 2)] hF (by kernel_rfl) fun a hF => ?_
    refine wl (eN 23 74 (t := 27) (fun b => .pointer (some ⟨b, 0, none⟩)) #[.slice none 0 0, .slice none 0 0, .int .i64 0, .slice none 0 0, .slice none 0 0] hF hM (by kernel_rfl) (fun _ => by kernel_rfl) fun bb74 a w hF hM => ?_)
    refine wl (sStore (i := 74) (off := 0) (cs' := #[.slice none 0 0, .slice none 0 0, .int .i64 0, .slice none 0 0, .slice none 0 0]) hF hM (by kernel_rfl) rfl rfl (by kernel_rfl) (by kernel_rfl) rfl (by kernel_rfl) fun w hM => ?_)
    refine sB 1 [(24, .int .i64 2)] hF (by kernel_rfl) fun a hF => ?_
    refine wpList_nil ?_
    refine hK154 _ _ ?_
    refine wp_seq_k fun K155 hK155 => ?_
    refine wp_region_lit ?_
    refine sB 3 [(147, .slice (some ⟨bb73, 0, none⟩) 2 2), (148, .agg #[.int .i64 3, .int .i64 0, .int .i64 6, .int .i64 300, .int .i64 0, .int .i64 0, .int .i64 0]), (149, .pointer (some ⟨bb73, 7, none⟩))] hF (by kernel_rfl) fun a hF => ?_
    refine wl (sStore (i := 73) (off := 7) (cs' := #[.int .i64 3, .int .i64 9, .int .i64 7, .int .i64 100, .int .i64 1000, .int .i64 200, .int .i64 250, .int .i64 3, .int .i64 0, .int .i64 6, .int .i64 300, .int .i64 0, .int .i64 0, .int .i64 0]) hF hM (by kernel_rfl) rfl rfl (by kernel_rfl) (by kernel_rfl) rfl (by kernel_rfl) fun w hM => ?_)
    refine wpList_nil ?_
    refine hK155 _ _ ?_
    refine wp_seq_k fun K156 hK156 => ?_
    refine wp_region_lit ?_
    refine sB 1 [(151, .slice (some ⟨bb73, 0, none⟩) 2 2)] hF (by kernel_rfl) fun a hF => ?_
    refine wl (eM 152 (v := .tuple #[.agg #[.slice none 0 0, .slice none 0 0, .int .i64 0, .slice none 0 0, .slice none 0 0], .int .i64 2]) hF hM (by kernel_rfl) (yld_call (f := 13) (args := #[.slice (some ⟨bb73, 0, none⟩) 2 2, .slice none 0 0]) hF (by kernel_rfl) (fun _ => by kernel_rfl) (fun w hM => fiNew_no (some ⟨bb73, 0, none⟩) [[3, 9, 7, 100, 1000, 200, 250], [3, 0, 6, 300, 0, 0, 0]] 2 none ([] : List (List Int)) 0 w (hM.roRow (k := 73) rfl) (show WR 7 ([[3, 9, 7, 100, 1000, 200, 250], [3, 0, 6, 300, 0, 0, 0]] : List (List Int)) from by unfold WR; simp) Ro.nil WR.nil (by kernel_rfl))) fun a w hF hM => ?_)
    refine sB 3 [(150, .tuple #[.agg #[.slice none 0 0, .slice none 0 0, .int .i64 0, .slice none 0 0, .slice none 0 0], .int .i64 2]), (153, .agg #[.slice none 0 0, .slice none 0 0, .int .i64 0, .slice none 0 0, .slice none 0 0]), (154, .int .i64 2)] hF (by kernel_rfl) fun a hF => ?_
    refine wl (eN 25 75 (t := 27) (fun b => .pointer (some ⟨b, 0, none⟩)) #[.slice none 0 0, .slice none 0 0, .int .i64 0, .slice none 0 0, .slice none 0 0] hF hM (by kernel_rfl) (fun _ => by kernel_rfl) fun bb75 a w hF hM => ?_)
    refine wl (sStore (i := 75) (off := 0) (cs' := #[.slice none 0 0, .slice none 0 0, .int .i64 0, .slice none 0 0, .slice none 0 0]) hF hM (by kernel_rfl) rfl rfl (by kernel_rfl) (by kernel_rfl) rfl (by kernel_rfl) fun w hM => ?_)
    refine sB 1 [(26, .int .i64 2)] hF (by kernel_rfl) fun a hF => ?_
    refine wpList_nil ?_
    refine hK156 _ _ ?_
    refine wp_seq_k fun K157 hK157 => ?_
    refine wp_region_lit ?_
    refine wl (sC (f := 24) (args := #[]) hF (by kernel_rfl) rfl (by decide) (by kernel_rfl) (fun _ => by kernel_rfl) ?_)
    refine enterK 5 Try.func24 rfl rfl rfl ?_
    intro a1 hF1 QR158 hR158 hNR158
    refine wp_seq_k fun K159 hK159 => ?_
    refine wp_region_lit ?_
    refine sB 1 [(0, .slice none 0 0)] hF1 (by kernel_rfl) fun a1 hF1 => ?_
    refine wpList_nil ?_
    refine hK159 _ _ ?_
    refine wp_seq_k fun K160 hK160 => ?_
    refine wp_region_lit ?_
    refine sB 3 [(1, .agg #[.int .i64 100, .int .i64 1]), (2, .agg #[.int .i64 100, .int .i64 1]), (3, .agg #[.int .i64 5, .int .i64 100, .int .i64 1, .int .i64 100, .int .i64 1])] hF1 (by kernel_rfl) fun a1 hF1 => ?_
    refine wl (eN 4 76 (t := 69) (fun b => .slice (some ⟨b, 0, none⟩) 1 1) #[.int .i64 5, .int .i64 100, .int .i64 1, .int .i64 100, .int .i64 1] hF1 hM (by kernel_rfl) (fun _ => by kernel_rfl) fun bb76 a1 w hF1 hM => ?_)
    refine sB 1 [(0, .slice (some ⟨bb76, 0, none⟩) 1 1)] hF1 (by kernel_rfl) fun a1 hF1 => ?_
    refine wpList_nil ?_
    refine hK160 _ _ ?_
    refine wp_ret ?_
    refine hR158 _ _ ?_
    refine ret_of hF1 hM (.tmp rfl (.nil)) ⟨_, rfl, ?_⟩
    intro a hF
    refine wl (sC (f := 24) (args := #[]) hF (by kernel_rfl) rfl (by decide) (by kernel_rfl) (fun _ => by kernel_rfl) ?_)
    refine enterK 5 Try.func24 rfl rfl rfl ?_
    intro a1 hF1 QR161 hR161 hNR161
    refine wp_seq_k fun K162 hK162 => ?_
    refine wp_region_lit ?_
    refine sB 1 [(0, .slice none 0 0)] hF1 (by kernel_rfl) fun a1 hF1 => ?_
    refine wpList_nil ?_
    refine hK162 _ _ ?_
    refine wp_seq_k fun K163 hK163 => ?_
    refine wp_region_lit ?_
    refine sB 3 [(1, .agg #[.int .i64 100, .int .i64 1]), (2, .agg #[.int .i64 100, .int .i64 1]), (3, .agg #[.int .i64 5, .int .i64 100, .int .i64 1, .int .i64 100, .int .i64 1])] hF1 (by kernel_rfl) fun a1 hF1 => ?_
    refine wl (eN 4 77 (t := 69) (fun b => .slice (some ⟨b, 0, none⟩) 1 1) #[.int .i64 5, .int .i64 100, .int .i64 1, .int .i64 100, .int .i64 1] hF1 hM (by kernel_rfl) (fun _ => by kernel_rfl) fun bb77 a1 w hF1 hM => ?_)
    refine sB 1 [(0, .slice (some ⟨bb77, 0, none⟩) 1 1)] hF1 (by kernel_rfl) fun a1 hF1 => ?_
    refine wpList_nil ?_
    refine hK163 _ _ ?_
    refine wp_ret ?_
    refine hR161 _ _ ?_
    refine ret_of hF1 hM (.tmp rfl (.nil)) ⟨_, rfl, ?_⟩
    intro a hF
    refine wl (sAppR 158 76 (e := 69) (size := 5) (bytes := 40) (z := .agg #[.int .i64 0, .int .i64 0, .int .i64 0, .int .i64 0, .int .i64 0]) (m := 1) (c := 1) (l := 1) (news := [.int .i64 5, .int .i64 100, .int .i64 1, .int .i64 100, .int .i64 1]) (flatR ([[5, 100, 1, 100, 1], [5, 100, 1, 100, 1]] : List (List Int))) hF hM (by kernel_rfl) rfl (by kernel_rfl) (by kernel_rfl) (by kernel_rfl) rfl rfl rfl rfl rfl (roR 77 rfl) (by simp [Value.oneCell']) (by omega) (by decide) (by kernel_rfl) (fun h => nomatch h) fun AA78 cc78 a w hF hM => ?_)
    refine wl (eM 159 (v := .tuple #[.agg #[.slice none 0 0, .slice none 0 0, .int .i64 0, .slice none 0 0, .slice none 0 0], .int .i64 2]) hF hM (by kernel_rfl) (yld_call (f := 13) (args := #[.slice none 0 0, .slice AA78 2 cc78]) hF (by kernel_rfl) (fun _ => by kernel_rfl) (fun w hM => fiNew_no none ([] : List (List Int)) 0 AA78 ([[5, 100, 1, 100, 1], [5, 100, 1, 100, 1]] : List (List Int)) cc78 w Ro.nil WR.nil (ro_of_own (hM.ok 76 _ rfl)) (by unfold WR; simp) (by kernel_rfl))) fun a w hF hM => ?_)
    refine sB 3 [(155, .tuple #[.agg #[.slice none 0 0, .slice none 0 0, .int .i64 0, .slice none 0 0, .slice none 0 0], .int .i64 2]), (160, .agg #[.slice none 0 0, .slice none 0 0, .int .i64 0, .slice none 0 0, .slice none 0 0]), (161, .int .i64 2)] hF (by kernel_rfl) fun a hF => ?_
    refine wl (eN 27 78 (t := 27) (fun b => .pointer (some ⟨b, 0, none⟩)) #[.slice none 0 0, .slice none 0 0, .int .i64 0, .slice none 0 0, .slice none 0 0] hF hM (by kernel_rfl) (fun _ => by kernel_rfl) fun bb79 a w hF hM => ?_)
    refine wl (sStore (i := 78) (off := 0) (cs' := #[.slice none 0 0, .slice none 0 0, .int .i64 0, .slice none 0 0, .slice none 0 0]) hF hM (by kernel_rfl) rfl rfl (by kernel_rfl) (by kernel_rfl) rfl (by kernel_rfl) fun w hM => ?_)
    refine sB 1 [(28, .int .i64 2)] hF (by kernel_rfl) fun a hF => ?_
    refine wpList_nil ?_
    refine hK157 _ _ ?_
    refine wp_seq_k fun K164 hK164 => ?_
    refine wp_region_lit ?_
    refine wl (sC (f := 24) (args := #[]) hF (by kernel_rfl) rfl (by decide) (by kernel_rfl) (fun _ => by kernel_rfl) ?_)
    refine enterK 5 Try.func24 rfl rfl rfl ?_
    intro a1 hF1 QR165 hR165 hNR165
    refine wp_seq_k fun K166 hK166 => ?_
    refine wp_region_lit ?_
    refine sB 1 [(0, .slice none 0 0)] hF1 (by kernel_rfl) fun a1 hF1 => ?_
    refine wpList_nil ?_
    refine hK166 _ _ ?_
    refine wp_seq_k fun K167 hK167 => ?_
    refine wp_region_lit ?_
    refine sB 3 [(1, .agg #[.int .i64 100, .int .i64 1]), (2, .agg #[.int .i64 100, .int .i64 1]), (3, .agg #[.int .i64 5, .int .i64 100, .int .i64 1, .int .i64 100, .int .i64 1])] hF1 (by kernel_rfl) fun a1 hF1 => ?_
    refine wl (eN 4 79 (t := 69) (fun b => .slice (some ⟨b, 0, none⟩) 1 1) #[.int .i64 5, .int .i64 100, .int .i64 1, .int .i64 100, .int .i64 1] hF1 hM (by kernel_rfl) (fun _ => by kernel_rfl) fun bb80 a1 w hF1 hM => ?_)
    refine sB 1 [(0, .slice (some ⟨bb80, 0, none⟩) 1 1)] hF1 (by kernel_rfl) fun a1 hF1 => ?_
    refine wpList_nil ?_
    refine hK167 _ _ ?_
    refine wp_ret ?_
    refine hR165 _ _ ?_
    refine ret_of hF1 hM (.tmp rfl (.nil)) ⟨_, rfl, ?_⟩
    intro a hF
    refine sB 1 [(29, .slice (some ⟨bb80, 0, none⟩) 1 1)] hF (by kernel_rfl) fun a hF => ?_
    refine wpList_nil ?_
    refine hK164 _ _ ?_
    refine wp_seq_k fun K168 hK168 => ?_
    refine wp_region_lit ?_
    refine sB 4 [(163, .slice (some ⟨bb80, 0, none⟩) 1 1), (164, .pointer (some ⟨bb80, 0, none⟩)), (165, .pointer (some ⟨bb80, 3, none⟩)), (166, .pointer (some ⟨bb80, 3, none⟩))] hF (by kernel_rfl) fun a hF => ?_
    refine wl (sStore (i := 79) (off := 3) (cs' := #[.int .i64 5, .int .i64 100, .int .i64 1, .int .i64 0, .int .i64 1]) hF hM (by kernel_rfl) rfl rfl (by kernel_rfl) (by kernel_rfl) rfl (by kernel_rfl) fun w hM => ?_)
    refine wpList_nil ?_
    refine hK168 _ _ ?_
    refine wp_seq_k fun K169 hK169 => ?_
    refine wp_region_lit ?_
    refine sB 1 [(168, .slice (some ⟨bb80, 0, none⟩) 1 1)] hF (by kernel_rfl) fun a hF => ?_
    refine wl (eM 169 (v := .tuple #[.agg #[.slice none 0 0, .slice none 0 0, .int .i64 0, .slice none 0 0, .slice none 0 0], .int .i64 2]) hF hM (by kernel_rfl) (yld_call (f := 13) (args := #[.slice none 0 0, .slice (some ⟨bb80, 0, none⟩) 1 1]) hF (by kernel_rfl) (fun _ => by kernel_rfl) (fun w hM => fiNew_no none ([] : List (List Int)) 0 (some ⟨bb80, 0, none⟩) [[5, 100, 1, 0, 1]] 1 w Ro.nil WR.nil (hM.roRow (k := 79) rfl) (show WR 5 ([[5, 100, 1, 0, 1]] : List (List Int)) from by unfold WR; simp) (by kernel_rfl))) fun a w hF hM => ?_)
    refine sB 3 [(167, .tuple #[.agg #[.slice none 0 0, .slice none 0 0, .int .i64 0, .slice none 0 0, .slice none 0 0], .int .i64 2]), (170, .agg #[.slice none 0 0, .slice none 0 0, .int .i64 0, .slice none 0 0, .slice none 0 0]), (171, .int .i64 2)] hF (by kernel_rfl) fun a hF => ?_
    refine wl (eN 30 80 (t := 27) (fun b => .pointer (some ⟨b, 0, none⟩)) #[.slice none 0 0, .slice none 0 0, .int .i64 0, .slice none 0 0, .slice none 0 0] hF hM (by kernel_rfl) (fun _ => by kernel_rfl) fun bb81 a w hF hM => ?_)
    refine wl (sStore (i := 80) (off := 0) (cs' := #[.slice none 0 0, .slice none 0 0, .int .i64 0, .slice none 0 0, .slice none 0 0]) hF hM (by kernel_rfl) rfl rfl (by kernel_rfl) (by kernel_rfl) rfl (by kernel_rfl) fun w hM => ?_)
    refine sB 1 [(31, .int .i64 2)] hF (by kernel_rfl) fun a hF => ?_
    refine wpList_nil ?_
    refine hK169 _ _ ?_
    refine wp_seq_k fun K170 hK170 => ?_
    refine wp_region_lit ?_
    refine sB 1 [(172, .int .i64 2)] hF (by kernel_rfl) fun a hF => ?_
    refine wl (eP 173 (v0 := .bool (decide (2 = 2))) (v := .bool true) hF (by kernel_rfl) (fun _ => by kernel_rfl) (bT (by omega)) fun a hF => ?_)
    refine sB 2 [(174, .bool true), (175, .int .i64 2)] hF (by kernel_rfl) fun a hF => ?_
    refine wl (eP 176 (v0 := .bool (decide (2 = 2))) (v := .bool true) hF (by kernel_rfl) (fun _ => by kernel_rfl) (bT (by omega)) fun a hF => ?_)
    refine sB 3 [(177, .bool true), (178, .bool true), (179, .int .i64 460)] hF (by kernel_rfl) fun a hF => ?_
    refine wl (eP 180 (v0 := .bool (decide (460 = 460))) (v := .bool true) hF (by kernel_rfl) (fun _ => by kernel_rfl) (bT (by omega)) fun a hF => ?_)
    refine sB 3 [(181, .bool true), (182, .bool true), (183, .int .i64 2)] hF (by kernel_rfl) fun a hF => ?_
    refine wl (eP 184 (v0 := .bool (decide (2 = 2))) (v := .bool true) hF (by kernel_rfl) (fun _ => by kernel_rfl) (bT (by omega)) fun a hF => ?_)
    refine sB 3 [(185, .bool true), (186, .bool true), (187, .int .i64 2)] hF (by kernel_rfl) fun a hF => ?_
    refine wl (eP 188 (v0 := .bool (decide (2 = 2))) (v := .bool true) hF (by kernel_rfl) (fun _ => by kernel_rfl) (bT (by omega)) fun a hF => ?_)
    refine sB 3 [(189, .bool true), (190, .bool true), (191, .int .i64 2)] hF (by kernel_rfl) fun a hF => ?_
    refine wl (eP 192 (v0 := .bool (decide (2 = 2))) (v := .bool true) hF (by kernel_rfl) (fun _ => by kernel_rfl) (bT (by omega)) fun a hF => ?_)
    refine sB 3 [(193, .bool true), (194, .bool true), (195, .int .i64 2)] hF (by kernel_rfl) fun a hF => ?_
    refine wl (eP 196 (v0 := .bool (decide (2 = 2))) (v := .bool true) hF (by kernel_rfl) (fun _ => by kernel_rfl) (bT (by omega)) fun a hF => ?_)
    refine sB 3 [(197, .bool true), (198, .bool true), (199, .int .i64 2)] hF (by kernel_rfl) fun a hF => ?_
    refine wl (eP 200 (v0 := .bool (decide (2 = 2))) (v := .bool true) hF (by kernel_rfl) (fun _ => by kernel_rfl) (bT (by omega)) fun a hF => ?_)
    refine sB 3 [(201, .bool true), (202, .bool true), (203, .int .i64 2)] hF (by kernel_rfl) fun a hF => ?_
    refine wl (eP 204 (v0 := .bool (decide (2 = 2))) (v := .bool true) hF (by kernel_rfl) (fun _ => by kernel_rfl) (bT (by omega)) fun a hF => ?_)
    refine sB 2 [(205, .bool true), (206, .bool true)] hF (by kernel_rfl) fun a hF => ?_
    refine wl (eL 207 5 0 (v := .agg #[.slice (some ⟨bb1, 0, none⟩) 2 2, .slice (some ⟨bb2, 0, none⟩) 1 1, .int .i64 4000, .slice AA64 2 cc64, .slice AA65 1 cc65]) hF hM (by kernel_rfl) rfl rfl (by kernel_rfl) (by kernel_rfl) fun a w hF hM => ?_)
    refine sB 1 [(208, .agg #[.slice none 0 0, .slice none 0 0, .int .i64 0, .slice none 0 0, .slice none 0 0])] hF (by kernel_rfl) fun a hF => ?_
    refine wl (eM 209 (v := .bool false) hF hM (by kernel_rfl) (yld_call (f := 15) (args := #[.agg #[.slice (some ⟨bb1, 0, none⟩) 2 2, .slice (some ⟨bb2, 0, none⟩) 1 1, .int .i64 4000, .slice AA64 2 cc64, .slice AA65 1 cc65], .agg #[.slice none 0 0, .slice none 0 0, .int .i64 0, .slice none 0 0, .slice none 0 0]]) hF (by kernel_rfl) (fun _ => by kernel_rfl) (fun w hM => calls_bool (by kernel_rfl) (same33_x (some ⟨bb1, 0, none⟩) [[3, 9, 7, 100, 1000, 200, 250], [3, 8, 6, 300, 0, 0, 0]] 2 (some ⟨bb2, 0, none⟩) [[5, 100, 1, 100, 1]] 1 4000 AA64 ([2, -1]) cc64 AA65 ([[5000, 0, 0]]) cc65 none ([] : List (List Int)) 0 none ([] : List (List Int)) 0 0 none ([] : List Int) 0 none ([] : List (List Int)) 0 w (hM.roRow (k := 1) rfl) (show WR 7 ([[3, 9, 7, 100, 1000, 200, 250], [3, 8, 6, 300, 0, 0, 0]] : List (List Int)) from by unfold WR; simp) (hM.roRow (k := 2) rfl) (show WR 5 ([[5, 100, 1, 100, 1]] : List (List Int)) from by unfold WR; simp) (hM.ok 64 _ rfl) (hM.ok 65 _ rfl) (show WR 3 ([[5000, 0, 0]]) from by unfold WR; simp) Ro.nil WR.nil Ro.nil WR.nil Ro.nil Ro.nil WR.nil ⟨by first | omega | decide, by first | omega | decide, by first | omega | decide, by first | omega | decide⟩ rfl rfl rfl rfl rfl rfl rfl rfl))) fun a w hF hM => ?_)
    refine sB 3 [(210, .bool true), (211, .bool true), (0, .bool true)] hF (by kernel_rfl) fun a hF => ?_
    refine wpList_nil ?_
    refine hK170 _ _ ?_
    refine wp_ret ?_
    refine hR0 _ _ ?_
    refine ret_of hF hM (.tmp rfl (.nil)) ?_
    exact ⟨rfl, hM.bel⟩

end Go.Proofs.Ytogeficooemngaa
