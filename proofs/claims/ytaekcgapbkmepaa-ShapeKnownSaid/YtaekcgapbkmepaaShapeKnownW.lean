/-
  The walk of ShapeKnown.
-/
import Derived.Test.YtaekcgapbkmepaaShapeD
namespace Go.Proofs.Ytaekcgapbkmepaa
open Go.RowKit
set_option linter.unusedVariables false
set_option linter.unusedSimpArgs false

set_option maxRecDepth 100000 in
set_option maxHeartbeats 8000000 in
theorem shapeKnown_walk (w0 : World) :
    Calls Try.prog 7 #[] w0 (Ret w0 (.bool true)) := by
  refine enterK 213 Try.func7 rfl rfl rfl ?_
  intro a hF Q0 hR0 hN0
  have hM := Mem.start w0
  refine wp_seq_k fun K1 hK1 => ?_
  refine wp_region_lit ?_
  refine sB 1 [(0, .bool false)] hF (by kernel_rfl) fun a hF => ?_
  refine wpList_nil ?_
  refine hK1 _ _ ?_
  refine wp_seq_k fun K2 hK2 => ?_
  refine wp_region_lit ?_
  refine wl (sC (f := 23) (args := #[]) hF (by kernel_rfl) rfl (by decide) (by kernel_rfl) (fun _ => by kernel_rfl) ?_)
  refine enterK 2 Try.func23 rfl rfl rfl ?_
  intro a1 hF1 QR3 hR3 hNR3
  refine wp_seq_k fun K4 hK4 => ?_
  refine wp_region_lit ?_
  refine wl (eN 0 1 (t := 23) (fun b => .pointer (some ⟨b, 0, none⟩)) #[.int .i64 0, .int .i64 0] hF1 hM (by kernel_rfl) (fun _ => by kernel_rfl) fun bb1 a1 w hF1 hM => ?_)
  refine wpList_nil ?_
  refine hK4 _ _ ?_
  refine wp_seq_k fun K5 hK5 => ?_
  refine wp_region_lit ?_
  refine sB 1 [(1, .agg #[.int .i64 100, .int .i64 131072])] hF1 (by kernel_rfl) fun a1 hF1 => ?_
  refine wl (sStore (i := 1) (off := 0) (cs' := #[.int .i64 100, .int .i64 131072]) hF1 hM (by kernel_rfl) rfl rfl (by kernel_rfl) (by kernel_rfl) rfl (by kernel_rfl) fun w hM => ?_)
  refine wpList_nil ?_
  refine hK5 _ _ ?_
  refine wp_ret ?_
  refine hR3 _ _ ?_
  refine ret_of hF1 hM (.cell (i := 1) rfl rfl (v := .agg #[.int .i64 100, .int .i64 131072]) (by kernel_rfl) (.nil)) ⟨_, rfl, ?_⟩
  intro a hF
  refine sB 1 [(34, .agg #[.int .i64 0, .int .i64 1])] hF (by kernel_rfl) fun a hF => ?_
  refine wl (eN 1 2 (t := 23) (fun b => .pointer (some ⟨b, 0, none⟩)) #[.int .i64 0, .int .i64 0] hF hM (by kernel_rfl) (fun _ => by kernel_rfl) fun bb2 a w hF hM => ?_)
  refine wl (eN 2 3 (t := 23) (fun b => .pointer (some ⟨b, 0, none⟩)) #[.int .i64 0, .int .i64 0] hF hM (by kernel_rfl) (fun _ => by kernel_rfl) fun bb3 a w hF hM => ?_)
  refine wl (sStore (i := 2) (off := 0) (cs' := #[.int .i64 100, .int .i64 131072]) hF hM (by kernel_rfl) rfl rfl (by kernel_rfl) (by kernel_rfl) rfl (by kernel_rfl) fun w hM => ?_)
  refine wl (sStore (i := 3) (off := 0) (cs' := #[.int .i64 0, .int .i64 1]) hF hM (by kernel_rfl) rfl rfl (by kernel_rfl) (by kernel_rfl) rfl (by kernel_rfl) fun w hM => ?_)
  refine wpList_nil ?_
  refine hK2 _ _ ?_
  refine wp_seq_k fun K6 hK6 => ?_
  refine wp_seq_k fun K7 hK7 => ?_
  refine wp_region_lit ?_
  refine sB 6 [(35, .agg #[.int .i64 (-1), .int .i64 0]), (36, .agg #[.int .i64 1099511627777, .int .i64 0]), (37, .agg #[.int .i64 0, .int .i64 (-1)]), (38, .agg #[.int .i64 0, .int .i64 104857601]), (39, .agg #[.int .i64 (-1), .int .i64 0, .int .i64 1099511627777, .int .i64 0, .int .i64 0, .int .i64 (-1), .int .i64 0, .int .i64 104857601]), (40, .int .i64 0)] hF (by kernel_rfl) fun a hF => ?_
  refine wpList_nil ?_
  refine hK7 _ _ ?_
  refine wp_block ?_
  refine wp_loop_rounds 5 ?_
  refine rounds_k fun K8 hK8 => ?_
  refine wp_seq_k fun K9 hK9 => ?_
  refine wp_region_lit ?_
  refine wl (eP 41 (v0 := .bool (decide (0 < 4))) (v := .bool true) hF (by kernel_rfl) (fun _ => by kernel_rfl) (bT (by omega)) fun a hF => ?_)
  refine wpList_nil ?_
  refine hK9 _ _ ?_
  refine wp_seq_k fun K10 hK10 => ?_
  refine cT hF (by kernel_rfl) (by kernel_rfl) ?_
  refine wp_skip ?_
  refine hK10 _ _ ?_
  refine wp_seq_k fun K11 hK11 => ?_
  refine wp_block ?_
  refine wp_seq_k fun K12 hK12 => ?_
  refine wp_region_lit ?_
  refine sB 1 [(42, .agg #[.int .i64 (-1), .int .i64 0])] hF (by kernel_rfl) fun a hF => ?_
  refine wl (eN 4 4 (t := 29) (fun b => .pointer (some ⟨b, 0, none⟩)) #[.int .i64 0, .int .i64 0] hF hM (by kernel_rfl) (fun _ => by kernel_rfl) fun bb4 a w hF hM => ?_)
  refine wl (sStore (i := 4) (off := 0) (cs' := #[.int .i64 (-1), .int .i64 0]) hF hM (by kernel_rfl) rfl rfl (by kernel_rfl) (by kernel_rfl) rfl (by kernel_rfl) fun w hM => ?_)
  refine wpList_nil ?_
  refine hK12 _ _ ?_
  refine wp_seq_k fun K13 hK13 => ?_
  refine wp_region_lit ?_
  refine wl (eL 44 2 0 (v := .agg #[.int .i64 100, .int .i64 131072]) hF hM (by kernel_rfl) rfl rfl (by kernel_rfl) (by kernel_rfl) fun a w hF hM => ?_)
  refine wl (eL 45 4 0 (v := .agg #[.int .i64 (-1), .int .i64 0]) hF hM (by kernel_rfl) rfl rfl (by kernel_rfl) (by kernel_rfl) fun a w hF hM => ?_)
  refine wl (eM 46 (v := .tuple #[.int .i64 0, .agg #[.int .i64 0, .int .i64 0], .int .i64 440]) hF hM (by kernel_rfl) (Yld.to (yld_call (f := 14) (args := #[.agg #[.int .i64 100, .int .i64 131072], .agg #[.int .i64 (-1), .int .i64 0], .int .i64 (-1), .int .i64 0]) hF (by kernel_rfl) (fun _ => by kernel_rfl) (fun w hM => shElig_w 100 131072 (-1) 0 (-1) 0 w)) (by kernel_rfl)) fun a w hF hM => ?_)
  refine sB 4 [(43, .tuple #[.int .i64 0, .agg #[.int .i64 0, .int .i64 0], .int .i64 440]), (47, .int .i64 0), (48, .agg #[.int .i64 0, .int .i64 0]), (49, .int .i64 440)] hF (by kernel_rfl) fun a hF => ?_
  refine wl (eN 6 5 (t := 29) (fun b => .pointer (some ⟨b, 0, none⟩)) #[.int .i64 0, .int .i64 0] hF hM (by kernel_rfl) (fun _ => by kernel_rfl) fun bb5 a w hF hM => ?_)
  refine sB 1 [(5, .int .i64 0)] hF (by kernel_rfl) fun a hF => ?_
  refine wl (sStore (i := 5) (off := 0) (cs' := #[.int .i64 0, .int .i64 0]) hF hM (by kernel_rfl) rfl rfl (by kernel_rfl) (by kernel_rfl) rfl (by kernel_rfl) fun w hM => ?_)
  refine sB 1 [(7, .int .i64 440)] hF (by kernel_rfl) fun a hF => ?_
  refine wpList_nil ?_
  refine hK13 _ _ ?_
  refine wp_seq_k fun K14 hK14 => ?_
  refine wp_region_lit ?_
  refine wl (eL 51 3 0 (v := .agg #[.int .i64 0, .int .i64 1]) hF hM (by kernel_rfl) rfl rfl (by kernel_rfl) (by kernel_rfl) fun a w hF hM => ?_)
  refine wl (eL 52 4 0 (v := .agg #[.int .i64 (-1), .int .i64 0]) hF hM (by kernel_rfl) rfl rfl (by kernel_rfl) (by kernel_rfl) fun a w hF hM => ?_)
  refine wl (eM 53 (v := .tuple #[.int .i64 0, .agg #[.int .i64 0, .int .i64 0], .int .i64 130]) hF hM (by kernel_rfl) (Yld.to (yld_call (f := 14) (args := #[.agg #[.int .i64 0, .int .i64 1], .agg #[.int .i64 (-1), .int .i64 0], .int .i64 (-1), .int .i64 0]) hF (by kernel_rfl) (fun _ => by kernel_rfl) (fun w hM => shElig_w 0 1 (-1) 0 (-1) 0 w)) (by kernel_rfl)) fun a w hF hM => ?_)
  refine sB 4 [(50, .tuple #[.int .i64 0, .agg #[.int .i64 0, .int .i64 0], .int .i64 130]), (54, .int .i64 0), (55, .agg #[.int .i64 0, .int .i64 0]), (56, .int .i64 130)] hF (by kernel_rfl) fun a hF => ?_
  refine wl (eN 9 6 (t := 29) (fun b => .pointer (some ⟨b, 0, none⟩)) #[.int .i64 0, .int .i64 0] hF hM (by kernel_rfl) (fun _ => by kernel_rfl) fun bb6 a w hF hM => ?_)
  refine sB 1 [(8, .int .i64 0)] hF (by kernel_rfl) fun a hF => ?_
  refine wl (sStore (i := 6) (off := 0) (cs' := #[.int .i64 0, .int .i64 0]) hF hM (by kernel_rfl) rfl rfl (by kernel_rfl) (by kernel_rfl) rfl (by kernel_rfl) fun w hM => ?_)
  refine sB 1 [(10, .int .i64 130)] hF (by kernel_rfl) fun a hF => ?_
  refine wpList_nil ?_
  refine hK14 _ _ ?_
  refine wp_seq_k fun K15 hK15 => ?_
  refine wp_region_lit ?_
  refine wl (eL 57 2 0 (v := .agg #[.int .i64 100, .int .i64 131072]) hF hM (by kernel_rfl) rfl rfl (by kernel_rfl) (by kernel_rfl) fun a w hF hM => ?_)
  refine wl (eL 58 4 0 (v := .agg #[.int .i64 (-1), .int .i64 0]) hF hM (by kernel_rfl) rfl rfl (by kernel_rfl) (by kernel_rfl) fun a w hF hM => ?_)
  refine wl (eM 59 (v := .int .i64 440) hF hM (by kernel_rfl) (Yld.to (yld_call (f := 12) (args := #[.agg #[.int .i64 100, .int .i64 131072], .agg #[.int .i64 (-1), .int .i64 0]]) hF (by kernel_rfl) (fun _ => by kernel_rfl) (fun w hM => shCheck_w 100 131072 (-1) 0 w)) (by kernel_rfl)) fun a w hF hM => ?_)
  refine wl (eP 60 (v0 := .bool (!decide (440 = 440))) (v := .bool false) hF (by kernel_rfl) (fun _ => by kernel_rfl) (nT (by omega)) fun a hF => ?_)
  refine sB 1 [(61, .bool false)] hF (by kernel_rfl) fun a hF => ?_
  refine wl (eL 62 3 0 (v := .agg #[.int .i64 0, .int .i64 1]) hF hM (by kernel_rfl) rfl rfl (by kernel_rfl) (by kernel_rfl) fun a w hF hM => ?_)
  refine wl (eL 63 4 0 (v := .agg #[.int .i64 (-1), .int .i64 0]) hF hM (by kernel_rfl) rfl rfl (by kernel_rfl) (by kernel_rfl) fun a w hF hM => ?_)
  refine wl (eM 64 (v := .int .i64 130) hF hM (by kernel_rfl) (Yld.to (yld_call (f := 12) (args := #[.agg #[.int .i64 0, .int .i64 1], .agg #[.int .i64 (-1), .int .i64 0]]) hF (by kernel_rfl) (fun _ => by kernel_rfl) (fun w hM => shCheck_w 0 1 (-1) 0 w)) (by kernel_rfl)) fun a w hF hM => ?_)
  refine wl (eP 65 (v0 := .bool (!decide (130 = 130))) (v := .bool false) hF (by kernel_rfl) (fun _ => by kernel_rfl) (nT (by omega)) fun a hF => ?_)
  refine sB 3 [(66, .bool false), (67, .bool false), (68, .int .i64 440)] hF (by kernel_rfl) fun a hF => ?_
  refine wl (eP 69 (v0 := .bool (!decide (440 = 440))) (v := .bool false) hF (by kernel_rfl) (fun _ => by kernel_rfl) (nT (by omega)) fun a hF => ?_)
  refine sB 3 [(70, .bool false), (71, .bool false), (72, .int .i64 130)] hF (by kernel_rfl) fun a hF => ?_
  refine wl (eP 73 (v0 := .bool (!decide (130 = 130))) (v := .bool false) hF (by kernel_rfl) (fun _ => by kernel_rfl) (nT (by omega)) fun a hF => ?_)
  refine sB 1 [(74, .bool false)] hF (by kernel_rfl) fun a hF => ?_
  refine wpList_nil ?_
  refine hK15 _ _ ?_
  refine cF hF (by kernel_rfl) (by kernel_rfl) ?_
  refine wp_skip ?_
  refine hK11 _ _ ?_
  refine wp_region_lit ?_
  refine wl (eP 75 (v0 := .int .i64 (IntKind.i64.wrap (0 + 1))) (v := .int .i64 1) hF (by kernel_rfl) (fun _ => by kernel_rfl) (vi (by decide)) fun a hF => ?_)
  refine sB 1 [(40, .int .i64 1)] hF (by kernel_rfl) fun a hF => ?_
  refine wpList_nil ?_
  refine hK8 _ _ ?_
  refine rounds_k fun K16 hK16 => ?_
  refine wp_seq_k fun K17 hK17 => ?_
  refine wp_region_lit ?_
  refine wl (eP 41 (v0 := .bool (decide (1 < 4))) (v := .bool true) hF (by kernel_rfl) (fun _ => by kernel_rfl) (bT (by omega)) fun a hF => ?_)
  refine wpList_nil ?_
  refine hK17 _ _ ?_
  refine wp_seq_k fun K18 hK18 => ?_
  refine cT hF (by kernel_rfl) (by kernel_rfl) ?_
  refine wp_skip ?_
  refine hK18 _ _ ?_
  refine wp_seq_k fun K19 hK19 => ?_
  refine wp_block ?_
  refine wp_seq_k fun K20 hK20 => ?_
  refine wp_region_lit ?_
  refine sB 1 [(42, .agg #[.int .i64 1099511627777, .int .i64 0])] hF (by kernel_rfl) fun a hF => ?_
  refine wl (eN 4 7 (t := 29) (fun b => .pointer (some ⟨b, 0, none⟩)) #[.int .i64 0, .int .i64 0] hF hM (by kernel_rfl) (fun _ => by kernel_rfl) fun bb7 a w hF hM => ?_)
  refine wl (sStore (i := 7) (off := 0) (cs' := #[.int .i64 1099511627777, .int .i64 0]) hF hM (by kernel_rfl) rfl rfl (by kernel_rfl) (by kernel_rfl) rfl (by kernel_rfl) fun w hM => ?_)
  refine wpList_nil ?_
  refine hK20 _ _ ?_
  refine wp_seq_k fun K21 hK21 => ?_
  refine wp_region_lit ?_
  refine wl (eL 44 2 0 (v := .agg #[.int .i64 100, .int .i64 131072]) hF hM (by kernel_rfl) rfl rfl (by kernel_rfl) (by kernel_rfl) fun a w hF hM => ?_)
  refine wl (eL 45 7 0 (v := .agg #[.int .i64 1099511627777, .int .i64 0]) hF hM (by kernel_rfl) rfl rfl (by kernel_rfl) (by kernel_rfl) fun a w hF hM => ?_)
  refine wl (eM 46 (v := .tuple #[.int .i64 0, .agg #[.int .i64 0, .int .i64 0], .int .i64 440]) hF hM (by kernel_rfl) (Yld.to (yld_call (f := 14) (args := #[.agg #[.int .i64 100, .int .i64 131072], .agg #[.int .i64 1099511627777, .int .i64 0], .int .i64 (-1), .int .i64 0]) hF (by kernel_rfl) (fun _ => by kernel_rfl) (fun w hM => shElig_w 100 131072 1099511627777 0 (-1) 0 w)) (by kernel_rfl)) fun a w hF hM => ?_)
  refine sB 4 [(43, .tuple #[.int .i64 0, .agg #[.int .i64 0, .int .i64 0], .int .i64 440]), (47, .int .i64 0), (48, .agg #[.int .i64 0, .int .i64 0]), (49, .int .i64 440)] hF (by kernel_rfl) fun a hF => ?_
  refine wl (eN 6 8 (t := 29) (fun b => .pointer (some ⟨b, 0, none⟩)) #[.int .i64 0, .int .i64 0] hF hM (by kernel_rfl) (fun _ => by kernel_rfl) fun bb8 a w hF hM => ?_)
  refine sB 1 [(5, .int .i64 0)] hF (by kernel_rfl) fun a hF => ?_
  refine wl (sStore (i := 8) (off := 0) (cs' := #[.int .i64 0, .int .i64 0]) hF hM (by kernel_rfl) rfl rfl (by kernel_rfl) (by kernel_rfl) rfl (by kernel_rfl) fun w hM => ?_)
  refine sB 1 [(7, .int .i64 440)] hF (by kernel_rfl) fun a hF => ?_
  refine wpList_nil ?_
  refine hK21 _ _ ?_
  refine wp_seq_k fun K22 hK22 => ?_
  refine wp_region_lit ?_
  refine wl (eL 51 3 0 (v := .agg #[.int .i64 0, .int .i64 1]) hF hM (by kernel_rfl) rfl rfl (by kernel_rfl) (by kernel_rfl) fun a w hF hM => ?_)
  refine wl (eL 52 7 0 (v := .agg #[.int .i64 1099511627777, .int .i64 0]) hF hM (by kernel_rfl) rfl rfl (by kernel_rfl) (by kernel_rfl) fun a w hF hM => ?_)
  refine wl (eM 53 (v := .tuple #[.int .i64 0, .agg #[.int .i64 0, .int .i64 0], .int .i64 130]) hF hM (by kernel_rfl) (Yld.to (yld_call (f := 14) (args := #[.agg #[.int .i64 0, .int .i64 1], .agg #[.int .i64 1099511627777, .int .i64 0], .int .i64 (-1), .int .i64 0]) hF (by kernel_rfl) (fun _ => by kernel_rfl) (fun w hM => shElig_w 0 1 1099511627777 0 (-1) 0 w)) (by kernel_rfl)) fun a w hF hM => ?_)
  refine sB 4 [(50, .tuple #[.int .i64 0, .agg #[.int .i64 0, .int .i64 0], .int .i64 130]), (54, .int .i64 0), (55, .agg #[.int .i64 0, .int .i64 0]), (56, .int .i64 130)] hF (by kernel_rfl) fun a hF => ?_
  refine wl (eN 9 9 (t := 29) (fun b => .pointer (some ⟨b, 0, none⟩)) #[.int .i64 0, .int .i64 0] hF hM (by kernel_rfl) (fun _ => by kernel_rfl) fun bb9 a w hF hM => ?_)
  refine sB 1 [(8, .int .i64 0)] hF (by kernel_rfl) fun a hF => ?_
  refine wl (sStore (i := 9) (off := 0) (cs' := #[.int .i64 0, .int .i64 0]) hF hM (by kernel_rfl) rfl rfl (by kernel_rfl) (by kernel_rfl) rfl (by kernel_rfl) fun w hM => ?_)
  refine sB 1 [(10, .int .i64 130)] hF (by kernel_rfl) fun a hF => ?_
  refine wpList_nil ?_
  refine hK22 _ _ ?_
  refine wp_seq_k fun K23 hK23 => ?_
  refine wp_region_lit ?_
  refine wl (eL 57 2 0 (v := .agg #[.int .i64 100, .int .i64 131072]) hF hM (by kernel_rfl) rfl rfl (by kernel_rfl) (by kernel_rfl) fun a w hF hM => ?_)
  refine wl (eL 58 7 0 (v := .agg #[.int .i64 1099511627777, .int .i64 0]) hF hM (by kernel_rfl) rfl rfl (by kernel_rfl) (by kernel_rfl) fun a w hF hM => ?_)
  refine wl (eM 59 (v := .int .i64 440) hF hM (by kernel_rfl) (Yld.to (yld_call (f := 12) (args := #[.agg #[.int .i64 100, .int .i64 131072], .agg #[.int .i64 1099511627777, .int .i64 0]]) hF (by kernel_rfl) (fun _ => by kernel_rfl) (fun w hM => shCheck_w 100 131072 1099511627777 0 w)) (by kernel_rfl)) fun a w hF hM => ?_)
  refine wl (eP 60 (v0 := .bool (!decide (440 = 440))) (v := .bool false) hF (by kernel_rfl) (fun _ => by kernel_rfl) (nT (by omega)) fun a hF => ?_)
  refine sB 1 [(61, .bool false)] hF (by kernel_rfl) fun a hF => ?_
  refine wl (eL 62 3 0 (v := .agg #[.int .i64 0, .int .i64 1]) hF hM (by kernel_rfl) rfl rfl (by kernel_rfl) (by kernel_rfl) fun a w hF hM => ?_)
  refine wl (eL 63 7 0 (v := .agg #[.int .i64 1099511627777, .int .i64 0]) hF hM (by kernel_rfl) rfl rfl (by kernel_rfl) (by kernel_rfl) fun a w hF hM => ?_)
  refine wl (eM 64 (v := .int .i64 130) hF hM (by kernel_rfl) (Yld.to (yld_call (f := 12) (args := #[.agg #[.int .i64 0, .int .i64 1], .agg #[.int .i64 1099511627777, .int .i64 0]]) hF (by kernel_rfl) (fun _ => by kernel_rfl) (fun w hM => shCheck_w 0 1 1099511627777 0 w)) (by kernel_rfl)) fun a w hF hM => ?_)
  refine wl (eP 65 (v0 := .bool (!decide (130 = 130))) (v := .bool false) hF (by kernel_rfl) (fun _ => by kernel_rfl) (nT (by omega)) fun a hF => ?_)
  refine sB 3 [(66, .bool false), (67, .bool false), (68, .int .i64 440)] hF (by kernel_rfl) fun a hF => ?_
  refine wl (eP 69 (v0 := .bool (!decide (440 = 440))) (v := .bool false) hF (by kernel_rfl) (fun _ => by kernel_rfl) (nT (by omega)) fun a hF => ?_)
  refine sB 3 [(70, .bool false), (71, .bool false), (72, .int .i64 130)] hF (by kernel_rfl) fun a hF => ?_
  refine wl (eP 73 (v0 := .bool (!decide (130 = 130))) (v := .bool false) hF (by kernel_rfl) (fun _ => by kernel_rfl) (nT (by omega)) fun a hF => ?_)
  refine sB 1 [(74, .bool false)] hF (by kernel_rfl) fun a hF => ?_
  refine wpList_nil ?_
  refine hK23 _ _ ?_
  refine cF hF (by kernel_rfl) (by kernel_rfl) ?_
  refine wp_skip ?_
  refine hK19 _ _ ?_
  refine wp_region_lit ?_
  refine wl (eP 75 (v0 := .int .i64 (IntKind.i64.wrap (1 + 1))) (v := .int .i64 2) hF (by kernel_rfl) (fun _ => by kernel_rfl) (vi (by decide)) fun a hF => ?_)
  refine sB 1 [(40, .int .i64 2)] hF (by kernel_rfl) fun a hF => ?_
  refine wpList_nil ?_
  refine hK16 _ _ ?_
  refine rounds_k fun K24 hK24 => ?_
  refine wp_seq_k fun K25 hK25 => ?_
  refine wp_region_lit ?_
  refine wl (eP 41 (v0 := .bool (decide (2 < 4))) (v := .bool true) hF (by kernel_rfl) (fun _ => by kernel_rfl) (bT (by omega)) fun a hF => ?_)
  refine wpList_nil ?_
  refine hK25 _ _ ?_
  refine wp_seq_k fun K26 hK26 => ?_
  refine cT hF (by kernel_rfl) (by kernel_rfl) ?_
  refine wp_skip ?_
  refine hK26 _ _ ?_
  refine wp_seq_k fun K27 hK27 => ?_
  refine wp_block ?_
  refine wp_seq_k fun K28 hK28 => ?_
  refine wp_region_lit ?_
  refine sB 1 [(42, .agg #[.int .i64 0, .int .i64 (-1)])] hF (by kernel_rfl) fun a hF => ?_
  refine wl (eN 4 10 (t := 29) (fun b => .pointer (some ⟨b, 0, none⟩)) #[.int .i64 0, .int .i64 0] hF hM (by kernel_rfl) (fun _ => by kernel_rfl) fun bb10 a w hF hM => ?_)
  refine wl (sStore (i := 10) (off := 0) (cs' := #[.int .i64 0, .int .i64 (-1)]) hF hM (by kernel_rfl) rfl rfl (by kernel_rfl) (by kernel_rfl) rfl (by kernel_rfl) fun w hM => ?_)
  refine wpList_nil ?_
  refine hK28 _ _ ?_
  refine wp_seq_k fun K29 hK29 => ?_
  refine wp_region_lit ?_
  refine wl (eL 44 2 0 (v := .agg #[.int .i64 100, .int .i64 131072]) hF hM (by kernel_rfl) rfl rfl (by kernel_rfl) (by kernel_rfl) fun a w hF hM => ?_)
  refine wl (eL 45 10 0 (v := .agg #[.int .i64 0, .int .i64 (-1)]) hF hM (by kernel_rfl) rfl rfl (by kernel_rfl) (by kernel_rfl) fun a w hF hM => ?_)
  refine wl (eM 46 (v := .tuple #[.int .i64 0, .agg #[.int .i64 0, .int .i64 0], .int .i64 440]) hF hM (by kernel_rfl) (Yld.to (yld_call (f := 14) (args := #[.agg #[.int .i64 100, .int .i64 131072], .agg #[.int .i64 0, .int .i64 (-1)], .int .i64 (-1), .int .i64 0]) hF (by kernel_rfl) (fun _ => by kernel_rfl) (fun w hM => shElig_w 100 131072 0 (-1) (-1) 0 w)) (by kernel_rfl)) fun a w hF hM => ?_)
  refine sB 4 [(43, .tuple #[.int .i64 0, .agg #[.int .i64 0, .int .i64 0], .int .i64 440]), (47, .int .i64 0), (48, .agg #[.int .i64 0, .int .i64 0]), (49, .int .i64 440)] hF (by kernel_rfl) fun a hF => ?_
  refine wl (eN 6 11 (t := 29) (fun b => .pointer (some ⟨b, 0, none⟩)) #[.int .i64 0, .int .i64 0] hF hM (by kernel_rfl) (fun _ => by kernel_rfl) fun bb11 a w hF hM => ?_)
  refine sB 1 [(5, .int .i64 0)] hF (by kernel_rfl) fun a hF => ?_
  refine wl (sStore (i := 11) (off := 0) (cs' := #[.int .i64 0, .int .i64 0]) hF hM (by kernel_rfl) rfl rfl (by kernel_rfl) (by kernel_rfl) rfl (by kernel_rfl) fun w hM => ?_)
  refine sB 1 [(7, .int .i64 440)] hF (by kernel_rfl) fun a hF => ?_
  refine wpList_nil ?_
  refine hK29 _ _ ?_
  refine wp_seq_k fun K30 hK30 => ?_
  refine wp_region_lit ?_
  refine wl (eL 51 3 0 (v := .agg #[.int .i64 0, .int .i64 1]) hF hM (by kernel_rfl) rfl rfl (by kernel_rfl) (by kernel_rfl) fun a w hF hM => ?_)
  refine wl (eL 52 10 0 (v := .agg #[.int .i64 0, .int .i64 (-1)]) hF hM (by kernel_rfl) rfl rfl (by kernel_rfl) (by kernel_rfl) fun a w hF hM => ?_)
  refine wl (eM 53 (v := .tuple #[.int .i64 0, .agg #[.int .i64 0, .int .i64 0], .int .i64 130]) hF hM (by kernel_rfl) (Yld.to (yld_call (f := 14) (args := #[.agg #[.int .i64 0, .int .i64 1], .agg #[.int .i64 0, .int .i64 (-1)], .int .i64 (-1), .int .i64 0]) hF (by kernel_rfl) (fun _ => by kernel_rfl) (fun w hM => shElig_w 0 1 0 (-1) (-1) 0 w)) (by kernel_rfl)) fun a w hF hM => ?_)
  refine sB 4 [(50, .tuple #[.int .i64 0, .agg #[.int .i64 0, .int .i64 0], .int .i64 130]), (54, .int .i64 0), (55, .agg #[.int .i64 0, .int .i64 0]), (56, .int .i64 130)] hF (by kernel_rfl) fun a hF => ?_
  refine wl (eN 9 12 (t := 29) (fun b => .pointer (some ⟨b, 0, none⟩)) #[.int .i64 0, .int .i64 0] hF hM (by kernel_rfl) (fun _ => by kernel_rfl) fun bb12 a w hF hM => ?_)
  refine sB 1 [(8, .int .i64 0)] hF (by kernel_rfl) fun a hF => ?_
  refine wl (sStore (i := 12) (off := 0) (cs' := #[.int .i64 0, .int .i64 0]) hF hM (by kernel_rfl) rfl rfl (by kernel_rfl) (by kernel_rfl) rfl (by kernel_rfl) fun w hM => ?_)
  refine sB 1 [(10, .int .i64 130)] hF (by kernel_rfl) fun a hF => ?_
  refine wpList_nil ?_
  refine hK30 _ _ ?_
  refine wp_seq_k fun K31 hK31 => ?_
  refine wp_region_lit ?_
  refine wl (eL 57 2 0 (v := .agg #[.int .i64 100, .int .i64 131072]) hF hM (by kernel_rfl) rfl rfl (by kernel_rfl) (by kernel_rfl) fun a w hF hM => ?_)
  refine wl (eL 58 10 0 (v := .agg #[.int .i64 0, .int .i64 (-1)]) hF hM (by kernel_rfl) rfl rfl (by kernel_rfl) (by kernel_rfl) fun a w hF hM => ?_)
  refine wl (eM 59 (v := .int .i64 440) hF hM (by kernel_rfl) (Yld.to (yld_call (f := 12) (args := #[.agg #[.int .i64 100, .int .i64 131072], .agg #[.int .i64 0, .int .i64 (-1)]]) hF (by kernel_rfl) (fun _ => by kernel_rfl) (fun w hM => shCheck_w 100 131072 0 (-1) w)) (by kernel_rfl)) fun a w hF hM => ?_)
  refine wl (eP 60 (v0 := .bool (!decide (440 = 440))) (v := .bool false) hF (by kernel_rfl) (fun _ => by kernel_rfl) (nT (by omega)) fun a hF => ?_)
  refine sB 1 [(61, .bool false)] hF (by kernel_rfl) fun a hF => ?_
  refine wl (eL 62 3 0 (v := .agg #[.int .i64 0, .int .i64 1]) hF hM (by kernel_rfl) rfl rfl (by kernel_rfl) (by kernel_rfl) fun a w hF hM => ?_)
  refine wl (eL 63 10 0 (v := .agg #[.int .i64 0, .int .i64 (-1)]) hF hM (by kernel_rfl) rfl rfl (by kernel_rfl) (by kernel_rfl) fun a w hF hM => ?_)
  refine wl (eM 64 (v := .int .i64 130) hF hM (by kernel_rfl) (Yld.to (yld_call (f := 12) (args := #[.agg #[.int .i64 0, .int .i64 1], .agg #[.int .i64 0, .int .i64 (-1)]]) hF (by kernel_rfl) (fun _ => by kernel_rfl) (fun w hM => shCheck_w 0 1 0 (-1) w)) (by kernel_rfl)) fun a w hF hM => ?_)
  refine wl (eP 65 (v0 := .bool (!decide (130 = 130))) (v := .bool false) hF (by kernel_rfl) (fun _ => by kernel_rfl) (nT (by omega)) fun a hF => ?_)
  refine sB 3 [(66, .bool false), (67, .bool false), (68, .int .i64 440)] hF (by kernel_rfl) fun a hF => ?_
  refine wl (eP 69 (v0 := .bool (!decide (440 = 440))) (v := .bool false) hF (by kernel_rfl) (fun _ => by kernel_rfl) (nT (by omega)) fun a hF => ?_)
  refine sB 3 [(70, .bool false), (71, .bool false), (72, .int .i64 130)] hF (by kernel_rfl) fun a hF => ?_
  refine wl (eP 73 (v0 := .bool (!decide (130 = 130))) (v := .bool false) hF (by kernel_rfl) (fun _ => by kernel_rfl) (nT (by omega)) fun a hF => ?_)
  refine sB 1 [(74, .bool false)] hF (by kernel_rfl) fun a hF => ?_
  refine wpList_nil ?_
  refine hK31 _ _ ?_
  refine cF hF (by kernel_rfl) (by kernel_rfl) ?_
  refine wp_skip ?_
  refine hK27 _ _ ?_
  refine wp_region_lit ?_
  refine wl (eP 75 (v0 := .int .i64 (IntKind.i64.wrap (2 + 1))) (v := .int .i64 3) hF (by kernel_rfl) (fun _ => by kernel_rfl) (vi (by decide)) fun a hF => ?_)
  refine sB 1 [(40, .int .i64 3)] hF (by kernel_rfl) fun a hF => ?_
  refine wpList_nil ?_
  refine hK24 _ _ ?_
  refine rounds_k fun K32 hK32 => ?_
  refine wp_seq_k fun K33 hK33 => ?_
  refine wp_region_lit ?_
  refine wl (eP 41 (v0 := .bool (decide (3 < 4))) (v := .bool true) hF (by kernel_rfl) (fun _ => by kernel_rfl) (bT (by omega)) fun a hF => ?_)
  refine wpList_nil ?_
  refine hK33 _ _ ?_
  refine wp_seq_k fun K34 hK34 => ?_
  refine cT hF (by kernel_rfl) (by kernel_rfl) ?_
  refine wp_skip ?_
  refine hK34 _ _ ?_
  refine wp_seq_k fun K35 hK35 => ?_
  refine wp_block ?_
  refine wp_seq_k fun K36 hK36 => ?_
  refine wp_region_lit ?_
  refine sB 1 [(42, .agg #[.int .i64 0, .int .i64 104857601])] hF (by kernel_rfl) fun a hF => ?_
  refine wl (eN 4 13 (t := 29) (fun b => .pointer (some ⟨b, 0, none⟩)) #[.int .i64 0, .int .i64 0] hF hM (by kernel_rfl) (fun _ => by kernel_rfl) fun bb13 a w hF hM => ?_)
  refine wl (sStore (i := 13) (off := 0) (cs' := #[.int .i64 0, .int .i64 104857601]) hF hM (by kernel_rfl) rfl rfl (by kernel_rfl) (by kernel_rfl) rfl (by kernel_rfl) fun w hM => ?_)
  refine wpList_nil ?_
  refine hK36 _ _ ?_
  refine wp_seq_k fun K37 hK37 => ?_
  refine wp_region_lit ?_
  refine wl (eL 44 2 0 (v := .agg #[.int .i64 100, .int .i64 131072]) hF hM (by kernel_rfl) rfl rfl (by kernel_rfl) (by kernel_rfl) fun a w hF hM => ?_)
  refine wl (eL 45 13 0 (v := .agg #[.int .i64 0, .int .i64 104857601]) hF hM (by kernel_rfl) rfl rfl (by kernel_rfl) (by kernel_rfl) fun a w hF hM => ?_)
  refine wl (eM 46 (v := .tuple #[.int .i64 0, .agg #[.int .i64 0, .int .i64 0], .int .i64 440]) hF hM (by kernel_rfl) (Yld.to (yld_call (f := 14) (args := #[.agg #[.int .i64 100, .int .i64 131072], .agg #[.int .i64 0, .int .i64 104857601], .int .i64 (-1), .int .i64 0]) hF (by kernel_rfl) (fun _ => by kernel_rfl) (fun w hM => shElig_w 100 131072 0 104857601 (-1) 0 w)) (by kernel_rfl)) fun a w hF hM => ?_)
  refine sB 4 [(43, .tuple #[.int .i64 0, .agg #[.int .i64 0, .int .i64 0], .int .i64 440]), (47, .int .i64 0), (48, .agg #[.int .i64 0, .int .i64 0]), (49, .int .i64 440)] hF (by kernel_rfl) fun a hF => ?_
  refine wl (eN 6 14 (t := 29) (fun b => .pointer (some ⟨b, 0, none⟩)) #[.int .i64 0, .int .i64 0] hF hM (by kernel_rfl) (fun _ => by kernel_rfl) fun bb14 a w hF hM => ?_)
  refine sB 1 [(5, .int .i64 0)] hF (by kernel_rfl) fun a hF => ?_
  refine wl (sStore (i := 14) (off := 0) (cs' := #[.int .i64 0, .int .i64 0]) hF hM (by kernel_rfl) rfl rfl (by kernel_rfl) (by kernel_rfl) rfl (by kernel_rfl) fun w hM => ?_)
  refine sB 1 [(7, .int .i64 440)] hF (by kernel_rfl) fun a hF => ?_
  refine wpList_nil ?_
  refine hK37 _ _ ?_
  refine wp_seq_k fun K38 hK38 => ?_
  refine wp_region_lit ?_
  refine wl (eL 51 3 0 (v := .agg #[.int .i64 0, .int .i64 1]) hF hM (by kernel_rfl) rfl rfl (by kernel_rfl) (by kernel_rfl) fun a w hF hM => ?_)
  refine wl (eL 52 13 0 (v := .agg #[.int .i64 0, .int .i64 104857601]) hF hM (by kernel_rfl) rfl rfl (by kernel_rfl) (by kernel_rfl) fun a w hF hM => ?_)
  refine wl (eM 53 (v := .tuple #[.int .i64 0, .agg #[.int .i64 0, .int .i64 0], .int .i64 130]) hF hM (by kernel_rfl) (Yld.to (yld_call (f := 14) (args := #[.agg #[.int .i64 0, .int .i64 1], .agg #[.int .i64 0, .int .i64 104857601], .int .i64 (-1), .int .i64 0]) hF (by kernel_rfl) (fun _ => by kernel_rfl) (fun w hM => shElig_w 0 1 0 104857601 (-1) 0 w)) (by kernel_rfl)) fun a w hF hM => ?_)
  refine sB 4 [(50, .tuple #[.int .i64 0, .agg #[.int .i64 0, .int .i64 0], .int .i64 130]), (54, .int .i64 0), (55, .agg #[.int .i64 0, .int .i64 0]), (56, .int .i64 130)] hF (by kernel_rfl) fun a hF => ?_
  refine wl (eN 9 15 (t := 29) (fun b => .pointer (some ⟨b, 0, none⟩)) #[.int .i64 0, .int .i64 0] hF hM (by kernel_rfl) (fun _ => by kernel_rfl) fun bb15 a w hF hM => ?_)
  refine sB 1 [(8, .int .i64 0)] hF (by kernel_rfl) fun a hF => ?_
  refine wl (sStore (i := 15) (off := 0) (cs' := #[.int .i64 0, .int .i64 0]) hF hM (by kernel_rfl) rfl rfl (by kernel_rfl) (by kernel_rfl) rfl (by kernel_rfl) fun w hM => ?_)
  refine sB 1 [(10, .int .i64 130)] hF (by kernel_rfl) fun a hF => ?_
  refine wpList_nil ?_
  refine hK38 _ _ ?_
  refine wp_seq_k fun K39 hK39 => ?_
  refine wp_region_lit ?_
  refine wl (eL 57 2 0 (v := .agg #[.int .i64 100, .int .i64 131072]) hF hM (by kernel_rfl) rfl rfl (by kernel_rfl) (by kernel_rfl) fun a w hF hM => ?_)
  refine wl (eL 58 13 0 (v := .agg #[.int .i64 0, .int .i64 104857601]) hF hM (by kernel_rfl) rfl rfl (by kernel_rfl) (by kernel_rfl) fun a w hF hM => ?_)
  refine wl (eM 59 (v := .int .i64 440) hF hM (by kernel_rfl) (Yld.to (yld_call (f := 12) (args := #[.agg #[.int .i64 100, .int .i64 131072], .agg #[.int .i64 0, .int .i64 104857601]]) hF (by kernel_rfl) (fun _ => by kernel_rfl) (fun w hM => shCheck_w 100 131072 0 104857601 w)) (by kernel_rfl)) fun a w hF hM => ?_)
  refine wl (eP 60 (v0 := .bool (!decide (440 = 440))) (v := .bool false) hF (by kernel_rfl) (fun _ => by kernel_rfl) (nT (by omega)) fun a hF => ?_)
  refine sB 1 [(61, .bool false)] hF (by kernel_rfl) fun a hF => ?_
  refine wl (eL 62 3 0 (v := .agg #[.int .i64 0, .int .i64 1]) hF hM (by kernel_rfl) rfl rfl (by kernel_rfl) (by kernel_rfl) fun a w hF hM => ?_)
  refine wl (eL 63 13 0 (v := .agg #[.int .i64 0, .int .i64 104857601]) hF hM (by kernel_rfl) rfl rfl (by kernel_rfl) (by kernel_rfl) fun a w hF hM => ?_)
  refine wl (eM 64 (v := .int .i64 130) hF hM (by kernel_rfl) (Yld.to (yld_call (f := 12) (args := #[.agg #[.int .i64 0, .int .i64 1], .agg #[.int .i64 0, .int .i64 104857601]]) hF (by kernel_rfl) (fun _ => by kernel_rfl) (fun w hM => shCheck_w 0 1 0 104857601 w)) (by kernel_rfl)) fun a w hF hM => ?_)
  refine wl (eP 65 (v0 := .bool (!decide (130 = 130))) (v := .bool false) hF (by kernel_rfl) (fun _ => by kernel_rfl) (nT (by omega)) fun a hF => ?_)
  refine sB 3 [(66, .bool false), (67, .bool false), (68, .int .i64 440)] hF (by kernel_rfl) fun a hF => ?_
  refine wl (eP 69 (v0 := .bool (!decide (440 = 440))) (v := .bool false) hF (by kernel_rfl) (fun _ => by kernel_rfl) (nT (by omega)) fun a hF => ?_)
  refine sB 3 [(70, .bool false), (71, .bool false), (72, .int .i64 130)] hF (by kernel_rfl) fun a hF => ?_
  refine wl (eP 73 (v0 := .bool (!decide (130 = 130))) (v := .bool false) hF (by kernel_rfl) (fun _ => by kernel_rfl) (nT (by omega)) fun a hF => ?_)
  refine sB 1 [(74, .bool false)] hF (by kernel_rfl) fun a hF => ?_
  refine wpList_nil ?_
  refine hK39 _ _ ?_
  refine cF hF (by kernel_rfl) (by kernel_rfl) ?_
  refine wp_skip ?_
  refine hK35 _ _ ?_
  refine wp_region_lit ?_
  refine wl (eP 75 (v0 := .int .i64 (IntKind.i64.wrap (3 + 1))) (v := .int .i64 4) hF (by kernel_rfl) (fun _ => by kernel_rfl) (vi (by decide)) fun a hF => ?_)
  refine sB 1 [(40, .int .i64 4)] hF (by kernel_rfl) fun a hF => ?_
  refine wpList_nil ?_
  refine hK32 _ _ ?_
  refine rounds_k fun K40 hK40 => ?_
  refine wp_seq_k fun K41 hK41 => ?_
  refine wp_region_lit ?_
  refine wl (eP 41 (v0 := .bool (decide (4 < 4))) (v := .bool false) hF (by kernel_rfl) (fun _ => by kernel_rfl) (bF (by omega)) fun a hF => ?_)
  refine wpList_nil ?_
  refine hK41 _ _ ?_
  refine wp_seq_k fun K42 hK42 => ?_
  refine cF hF (by kernel_rfl) (by kernel_rfl) ?_
  refine wp_exit ?_
  refine hK6 _ _ ?_
  refine wp_seq_k fun K43 hK43 => ?_
  refine wp_seq_k fun K44 hK44 => ?_
  refine wp_region_lit ?_
  refine sB 6 [(76, .agg #[.int .i64 (-1), .int .i64 5]), (77, .agg #[.int .i64 1099511627777, .int .i64 5]), (78, .agg #[.int .i64 0, .int .i64 0]), (79, .agg #[.int .i64 0, .int .i64 1048577]), (80, .agg #[.int .i64 (-1), .int .i64 5, .int .i64 1099511627777, .int .i64 5, .int .i64 0, .int .i64 0, .int .i64 0, .int .i64 1048577]), (81, .int .i64 0)] hF (by kernel_rfl) fun a hF => ?_
  refine wpList_nil ?_
  refine hK44 _ _ ?_
  refine wp_block ?_
  refine wp_loop_rounds 5 ?_
  refine rounds_k fun K45 hK45 => ?_
  refine wp_seq_k fun K46 hK46 => ?_
  refine wp_region_lit ?_
  refine wl (eP 82 (v0 := .bool (decide (0 < 4))) (v := .bool true) hF (by kernel_rfl) (fun _ => by kernel_rfl) (bT (by omega)) fun a hF => ?_)
  refine wpList_nil ?_
  refine hK46 _ _ ?_
  refine wp_seq_k fun K47 hK47 => ?_
  refine cT hF (by kernel_rfl) (by kernel_rfl) ?_
  refine wp_skip ?_
  refine hK47 _ _ ?_
  refine wp_seq_k fun K48 hK48 => ?_
  refine wp_block ?_
  refine wp_seq_k fun K49 hK49 => ?_
  refine wp_region_lit ?_
  refine sB 1 [(83, .agg #[.int .i64 (-1), .int .i64 5])] hF (by kernel_rfl) fun a hF => ?_
  refine wl (eN 12 16 (t := 60) (fun b => .pointer (some ⟨b, 0, none⟩)) #[.int .i64 0, .int .i64 0] hF hM (by kernel_rfl) (fun _ => by kernel_rfl) fun bb16 a w hF hM => ?_)
  refine wl (sStore (i := 16) (off := 0) (cs' := #[.int .i64 (-1), .int .i64 5]) hF hM (by kernel_rfl) rfl rfl (by kernel_rfl) (by kernel_rfl) rfl (by kernel_rfl) fun w hM => ?_)
  refine wpList_nil ?_
  refine hK49 _ _ ?_
  refine wp_seq_k fun K50 hK50 => ?_
  refine wp_region_lit ?_
  refine wl (eL 85 2 0 (v := .agg #[.int .i64 100, .int .i64 131072]) hF hM (by kernel_rfl) rfl rfl (by kernel_rfl) (by kernel_rfl) fun a w hF hM => ?_)
  refine sB 2 [(86, .agg #[.int .i64 0, .int .i64 0]), (87, .pointer (some ⟨bb16, 0, none⟩))] hF (by kernel_rfl) fun a hF => ?_
  refine wl (eL 88 16 0 (v := .int .i64 (-1)) hF hM (by kernel_rfl) rfl rfl (by kernel_rfl) (by kernel_rfl) fun a w hF hM => ?_)
  refine sB 1 [(89, .pointer (some ⟨bb16, 1, none⟩))] hF (by kernel_rfl) fun a hF => ?_
  refine wl (eL 90 16 1 (v := .int .i64 5) hF hM (by kernel_rfl) rfl rfl (by kernel_rfl) (by kernel_rfl) fun a w hF hM => ?_)
  refine wl (eM 91 (v := .tuple #[.int .i64 0, .agg #[.int .i64 0, .int .i64 0], .int .i64 2]) hF hM (by kernel_rfl) (Yld.to (yld_call (f := 14) (args := #[.agg #[.int .i64 100, .int .i64 131072], .agg #[.int .i64 0, .int .i64 0], .int .i64 (-1), .int .i64 5]) hF (by kernel_rfl) (fun _ => by kernel_rfl) (fun w hM => shElig_w 100 131072 0 0 (-1) 5 w)) (by kernel_rfl)) fun a w hF hM => ?_)
  refine sB 4 [(84, .tuple #[.int .i64 0, .agg #[.int .i64 0, .int .i64 0], .int .i64 2]), (92, .int .i64 0), (93, .agg #[.int .i64 0, .int .i64 0]), (94, .int .i64 2)] hF (by kernel_rfl) fun a hF => ?_
  refine wl (eN 14 17 (t := 29) (fun b => .pointer (some ⟨b, 0, none⟩)) #[.int .i64 0, .int .i64 0] hF hM (by kernel_rfl) (fun _ => by kernel_rfl) fun bb17 a w hF hM => ?_)
  refine sB 1 [(13, .int .i64 0)] hF (by kernel_rfl) fun a hF => ?_
  refine wl (sStore (i := 17) (off := 0) (cs' := #[.int .i64 0, .int .i64 0]) hF hM (by kernel_rfl) rfl rfl (by kernel_rfl) (by kernel_rfl) rfl (by kernel_rfl) fun w hM => ?_)
  refine sB 1 [(15, .int .i64 2)] hF (by kernel_rfl) fun a hF => ?_
  refine wpList_nil ?_
  refine hK50 _ _ ?_
  refine wp_seq_k fun K51 hK51 => ?_
  refine wp_region_lit ?_
  refine sB 1 [(95, .int .i64 2)] hF (by kernel_rfl) fun a hF => ?_
  refine wl (eP 96 (v0 := .bool (!decide (2 = 2))) (v := .bool false) hF (by kernel_rfl) (fun _ => by kernel_rfl) (nT (by omega)) fun a hF => ?_)
  refine sB 2 [(97, .bool false), (98, .int .i64 0)] hF (by kernel_rfl) fun a hF => ?_
  refine wl (eP 99 (v0 := .bool (!decide (0 = 0))) (v := .bool false) hF (by kernel_rfl) (fun _ => by kernel_rfl) (nT (by omega)) fun a hF => ?_)
  refine sB 2 [(100, .bool false), (101, .bool false)] hF (by kernel_rfl) fun a hF => ?_
  refine wl (eL 102 17 0 (v := .agg #[.int .i64 0, .int .i64 0]) hF hM (by kernel_rfl) rfl rfl (by kernel_rfl) (by kernel_rfl) fun a w hF hM => ?_)
  refine sB 1 [(103, .agg #[.int .i64 0, .int .i64 0])] hF (by kernel_rfl) fun a hF => ?_
  refine wl (eM 104 (v := .bool false) hF hM (by kernel_rfl) ((yld_neq (C := Mem _ _ _) [0, 0] [0, 0] hF rfl (by kernel_rfl) (by kernel_rfl) (by kernel_rfl) rfl (by kernel_rfl) (by kernel_rfl) (by kernel_rfl) rfl rfl).to (nT (by decide))) fun a w hF hM => ?_)
  refine sB 1 [(105, .bool false)] hF (by kernel_rfl) fun a hF => ?_
  refine wpList_nil ?_
  refine hK51 _ _ ?_
  refine cF hF (by kernel_rfl) (by kernel_rfl) ?_
  refine wp_skip ?_
  refine hK48 _ _ ?_
  refine wp_region_lit ?_
  refine wl (eP 106 (v0 := .int .i64 (IntKind.i64.wrap (0 + 1))) (v := .int .i64 1) hF (by kernel_rfl) (fun _ => by kernel_rfl) (vi (by decide)) fun a hF => ?_)
  refine sB 1 [(81, .int .i64 1)] hF (by kernel_rfl) fun a hF => ?_
  refine wpList_nil ?_
  refine hK45 _ _ ?_
  refine rounds_k fun K52 hK52 => ?_
  refine wp_seq_k fun K53 hK53 => ?_
  refine wp_region_lit ?_
  refine wl (eP 82 (v0 := .bool (decide (1 < 4))) (v := .bool true) hF (by kernel_rfl) (fun _ => by kernel_rfl) (bT (by omega)) fun a hF => ?_)
  refine wpList_nil ?_
  refine hK53 _ _ ?_
  refine wp_seq_k fun K54 hK54 => ?_
  refine cT hF (by kernel_rfl) (by kernel_rfl) ?_
  refine wp_skip ?_
  refine hK54 _ _ ?_
  refine wp_seq_k fun K55 hK55 => ?_
  refine wp_block ?_
  refine wp_seq_k fun K56 hK56 => ?_
  refine wp_region_lit ?_
  refine sB 1 [(83, .agg #[.int .i64 1099511627777, .int .i64 5])] hF (by kernel_rfl) fun a hF => ?_
  refine wl (eN 12 18 (t := 60) (fun b => .pointer (some ⟨b, 0, none⟩)) #[.int .i64 0, .int .i64 0] hF hM (by kernel_rfl) (fun _ => by kernel_rfl) fun bb18 a w hF hM => ?_)
  refine wl (sStore (i := 18) (off := 0) (cs' := #[.int .i64 1099511627777, .int .i64 5]) hF hM (by kernel_rfl) rfl rfl (by kernel_rfl) (by kernel_rfl) rfl (by kernel_rfl) fun w hM => ?_)
  refine wpList_nil ?_
  refine hK56 _ _ ?_
  refine wp_seq_k fun K57 hK57 => ?_
  refine wp_region_lit ?_
  refine wl (eL 85 2 0 (v := .agg #[.int .i64 100, .int .i64 131072]) hF hM (by kernel_rfl) rfl rfl (by kernel_rfl) (by kernel_rfl) fun a w hF hM => ?_)
  refine sB 2 [(86, .agg #[.int .i64 0, .int .i64 0]), (87, .pointer (some ⟨bb18, 0, none⟩))] hF (by kernel_rfl) fun a hF => ?_
  refine wl (eL 88 18 0 (v := .int .i64 1099511627777) hF hM (by kernel_rfl) rfl rfl (by kernel_rfl) (by kernel_rfl) fun a w hF hM => ?_)
  refine sB 1 [(89, .pointer (some ⟨bb18, 1, none⟩))] hF (by kernel_rfl) fun a hF => ?_
  refine wl (eL 90 18 1 (v := .int .i64 5) hF hM (by kernel_rfl) rfl rfl (by kernel_rfl) (by kernel_rfl) fun a w hF hM => ?_)
  refine wl (eM 91 (v := .tuple #[.int .i64 0, .agg #[.int .i64 0, .int .i64 0], .int .i64 2]) hF hM (by kernel_rfl) (Yld.to (yld_call (f := 14) (args := #[.agg #[.int .i64 100, .int .i64 131072], .agg #[.int .i64 0, .int .i64 0], .int .i64 1099511627777, .int .i64 5]) hF (by kernel_rfl) (fun _ => by kernel_rfl) (fun w hM => shElig_w 100 131072 0 0 1099511627777 5 w)) (by kernel_rfl)) fun a w hF hM => ?_)
  refine sB 4 [(84, .tuple #[.int .i64 0, .agg #[.int .i64 0, .int .i64 0], .int .i64 2]), (92, .int .i64 0), (93, .agg #[.int .i64 0, .int .i64 0]), (94, .int .i64 2)] hF (by kernel_rfl) fun a hF => ?_
  refine wl (eN 14 19 (t := 29) (fun b => .pointer (some ⟨b, 0, none⟩)) #[.int .i64 0, .int .i64 0] hF hM (by kernel_rfl) (fun _ => by kernel_rfl) fun bb19 a w hF hM => ?_)
  refine sB 1 [(13, .int .i64 0)] hF (by kernel_rfl) fun a hF => ?_
  refine wl (sStore (i := 19) (off := 0) (cs' := #[.int .i64 0, .int .i64 0]) hF hM (by kernel_rfl) rfl rfl (by kernel_rfl) (by kernel_rfl) rfl (by kernel_rfl) fun w hM => ?_)
  refine sB 1 [(15, .int .i64 2)] hF (by kernel_rfl) fun a hF => ?_
  refine wpList_nil ?_
  refine hK57 _ _ ?_
  refine wp_seq_k fun K58 hK58 => ?_
  refine wp_region_lit ?_
  refine sB 1 [(95, .int .i64 2)] hF (by kernel_rfl) fun a hF => ?_
  refine wl (eP 96 (v0 := .bool (!decide (2 = 2))) (v := .bool false) hF (by kernel_rfl) (fun _ => by kernel_rfl) (nT (by omega)) fun a hF => ?_)
  refine sB 2 [(97, .bool false), (98, .int .i64 0)] hF (by kernel_rfl) fun a hF => ?_
  refine wl (eP 99 (v0 := .bool (!decide (0 = 0))) (v := .bool false) hF (by kernel_rfl) (fun _ => by kernel_rfl) (nT (by omega)) fun a hF => ?_)
  refine sB 2 [(100, .bool false), (101, .bool false)] hF (by kernel_rfl) fun a hF => ?_
  refine wl (eL 102 19 0 (v := .agg #[.int .i64 0, .int .i64 0]) hF hM (by kernel_rfl) rfl rfl (by kernel_rfl) (by kernel_rfl) fun a w hF hM => ?_)
  refine sB 1 [(103, .agg #[.int .i64 0, .int .i64 0])] hF (by kernel_rfl) fun a hF => ?_
  refine wl (eM 104 (v := .bool false) hF hM (by kernel_rfl) ((yld_neq (C := Mem _ _ _) [0, 0] [0, 0] hF rfl (by kernel_rfl) (by kernel_rfl) (by kernel_rfl) rfl (by kernel_rfl) (by kernel_rfl) (by kernel_rfl) rfl rfl).to (nT (by decide))) fun a w hF hM => ?_)
  refine sB 1 [(105, .bool false)] hF (by kernel_rfl) fun a hF => ?_
  refine wpList_nil ?_
  refine hK58 _ _ ?_
  refine cF hF (by kernel_rfl) (by kernel_rfl) ?_
  refine wp_skip ?_
  refine hK55 _ _ ?_
  refine wp_region_lit ?_
  refine wl (eP 106 (v0 := .int .i64 (IntKind.i64.wrap (1 + 1))) (v := .int .i64 2) hF (by kernel_rfl) (fun _ => by kernel_rfl) (vi (by decide)) fun a hF => ?_)
  refine sB 1 [(81, .int .i64 2)] hF (by kernel_rfl) fun a hF => ?_
  refine wpList_nil ?_
  refine hK52 _ _ ?_
  refine rounds_k fun K59 hK59 => ?_
  refine wp_seq_k fun K60 hK60 => ?_
  refine wp_region_lit ?_
  refine wl (eP 82 (v0 := .bool (decide (2 < 4))) (v := .bool true) hF (by kernel_rfl) (fun _ => by kernel_rfl) (bT (by omega)) fun a hF => ?_)
  refine wpList_nil ?_
  refine hK60 _ _ ?_
  refine wp_seq_k fun K61 hK61 => ?_
  refine cT hF (by kernel_rfl) (by kernel_rfl) ?_
  refine wp_skip ?_
  refine hK61 _ _ ?_
  refine wp_seq_k fun K62 hK62 => ?_
  refine wp_block ?_
  refine wp_seq_k fun K63 hK63 => ?_
  refine wp_region_lit ?_
  refine sB 1 [(83, .agg #[.int .i64 0, .int .i64 0])] hF (by kernel_rfl) fun a hF => ?_
  refine wl (eN 12 20 (t := 60) (fun b => .pointer (some ⟨b, 0, none⟩)) #[.int .i64 0, .int .i64 0] hF hM (by kernel_rfl) (fun _ => by kernel_rfl) fun bb20 a w hF hM => ?_)
  refine wl (sStore (i := 20) (off := 0) (cs' := #[.int .i64 0, .int .i64 0]) hF hM (by kernel_rfl) rfl rfl (by kernel_rfl) (by kernel_rfl) rfl (by kernel_rfl) fun w hM => ?_)
  refine wpList_nil ?_
  refine hK63 _ _ ?_
  refine wp_seq_k fun K64 hK64 => ?_
  refine wp_region_lit ?_
  refine wl (eL 85 2 0 (v := .agg #[.int .i64 100, .int .i64 131072]) hF hM (by kernel_rfl) rfl rfl (by kernel_rfl) (by kernel_rfl) fun a w hF hM => ?_)
  refine sB 2 [(86, .agg #[.int .i64 0, .int .i64 0]), (87, .pointer (some ⟨bb20, 0, none⟩))] hF (by kernel_rfl) fun a hF => ?_
  refine wl (eL 88 20 0 (v := .int .i64 0) hF hM (by kernel_rfl) rfl rfl (by kernel_rfl) (by kernel_rfl) fun a w hF hM => ?_)
  refine sB 1 [(89, .pointer (some ⟨bb20, 1, none⟩))] hF (by kernel_rfl) fun a hF => ?_
  refine wl (eL 90 20 1 (v := .int .i64 0) hF hM (by kernel_rfl) rfl rfl (by kernel_rfl) (by kernel_rfl) fun a w hF hM => ?_)
  refine wl (eM 91 (v := .tuple #[.int .i64 0, .agg #[.int .i64 0, .int .i64 0], .int .i64 2]) hF hM (by kernel_rfl) (Yld.to (yld_call (f := 14) (args := #[.agg #[.int .i64 100, .int .i64 131072], .agg #[.int .i64 0, .int .i64 0], .int .i64 0, .int .i64 0]) hF (by kernel_rfl) (fun _ => by kernel_rfl) (fun w hM => shElig_w 100 131072 0 0 0 0 w)) (by kernel_rfl)) fun a w hF hM => ?_)
  refine sB 4 [(84, .tuple #[.int .i64 0, .agg #[.int .i64 0, .int .i64 0], .int .i64 2]), (92, .int .i64 0), (93, .agg #[.int .i64 0, .int .i64 0]), (94, .int .i64 2)] hF (by kernel_rfl) fun a hF => ?_
  refine wl (eN 14 21 (t := 29) (fun b => .pointer (some ⟨b, 0, none⟩)) #[.int .i64 0, .int .i64 0] hF hM (by kernel_rfl) (fun _ => by kernel_rfl) fun bb21 a w hF hM => ?_)
  refine sB 1 [(13, .int .i64 0)] hF (by kernel_rfl) fun a hF => ?_
  refine wl (sStore (i := 21) (off := 0) (cs' := #[.int .i64 0, .int .i64 0]) hF hM (by kernel_rfl) rfl rfl (by kernel_rfl) (by kernel_rfl) rfl (by kernel_rfl) fun w hM => ?_)
  refine sB 1 [(15, .int .i64 2)] hF (by kernel_rfl) fun a hF => ?_
  refine wpList_nil ?_
  refine hK64 _ _ ?_
  refine wp_seq_k fun K65 hK65 => ?_
  refine wp_region_lit ?_
  refine sB 1 [(95, .int .i64 2)] hF (by kernel_rfl) fun a hF => ?_
  refine wl (eP 96 (v0 := .bool (!decide (2 = 2))) (v := .bool false) hF (by kernel_rfl) (fun _ => by kernel_rfl) (nT (by omega)) fun a hF => ?_)
  refine sB 2 [(97, .bool false), (98, .int .i64 0)] hF (by kernel_rfl) fun a hF => ?_
  refine wl (eP 99 (v0 := .bool (!decide (0 = 0))) (v := .bool false) hF (by kernel_rfl) (fun _ => by kernel_rfl) (nT (by omega)) fun a hF => ?_)
  refine sB 2 [(100, .bool false), (101, .bool false)] hF (by kernel_rfl) fun a hF => ?_
  refine wl (eL 102 21 0 (v := .agg #[.int .i64 0, .int .i64 0]) hF hM (by kernel_rfl) rfl rfl (by kernel_rfl) (by kernel_rfl) fun a w hF hM => ?_)
  refine sB 1 [(103, .agg #[.int .i64 0, .int .i64 0])] hF (by kernel_rfl) fun a hF => ?_
  refine wl (eM 104 (v := .bool false) hF hM (by kernel_rfl) ((yld_neq (C := Mem _ _ _) [0, 0] [0, 0] hF rfl (by kernel_rfl) (by kernel_rfl) (by kernel_rfl) rfl (by kernel_rfl) (by kernel_rfl) (by kernel_rfl) rfl rfl).to (nT (by decide))) fun a w hF hM => ?_)
  refine sB 1 [(105, .bool false)] hF (by kernel_rfl) fun a hF => ?_
  refine wpList_nil ?_
  refine hK65 _ _ ?_
  refine cF hF (by kernel_rfl) (by kernel_rfl) ?_
  refine wp_skip ?_
  refine hK62 _ _ ?_
  refine wp_region_lit ?_
  refine wl (eP 106 (v0 := .int .i64 (IntKind.i64.wrap (2 + 1))) (v := .int .i64 3) hF (by kernel_rfl) (fun _ => by kernel_rfl) (vi (by decide)) fun a hF => ?_)
  refine sB 1 [(81, .int .i64 3)] hF (by kernel_rfl) fun a hF => ?_
  refine wpList_nil ?_
  refine hK59 _ _ ?_
  refine rounds_k fun K66 hK66 => ?_
  refine wp_seq_k fun K67 hK67 => ?_
  refine wp_region_lit ?_
  refine wl (eP 82 (v0 := .bool (decide (3 < 4))) (v := .bool true) hF (by kernel_rfl) (fun _ => by kernel_rfl) (bT (by omega)) fun a hF => ?_)
  refine wpList_nil ?_
  refine hK67 _ _ ?_
  refine wp_seq_k fun K68 hK68 => ?_
  refine cT hF (by kernel_rfl) (by kernel_rfl) ?_
  refine wp_skip ?_
  refine hK68 _ _ ?_
  refine wp_seq_k fun K69 hK69 => ?_
  refine wp_block ?_
  refine wp_seq_k fun K70 hK70 => ?_
  refine wp_region_lit ?_
  refine sB 1 [(83, .agg #[.int .i64 0, .int .i64 1048577])] hF (by kernel_rfl) fun a hF => ?_
  refine wl (eN 12 22 (t := 60) (fun b => .pointer (some ⟨b, 0, none⟩)) #[.int .i64 0, .int .i64 0] hF hM (by kernel_rfl) (fun _ => by kernel_rfl) fun bb22 a w hF hM => ?_)
  refine wl (sStore (i := 22) (off := 0) (cs' := #[.int .i64 0, .int .i64 1048577]) hF hM (by kernel_rfl) rfl rfl (by kernel_rfl) (by kernel_rfl) rfl (by kernel_rfl) fun w hM => ?_)
  refine wpList_nil ?_
  refine hK70 _ _ ?_
  refine wp_seq_k fun K71 hK71 => ?_
  refine wp_region_lit ?_
  refine wl (eL 85 2 0 (v := .agg #[.int .i64 100, .int .i64 131072]) hF hM (by kernel_rfl) rfl rfl (by kernel_rfl) (by kernel_rfl) fun a w hF hM => ?_)
  refine sB 2 [(86, .agg #[.int .i64 0, .int .i64 0]), (87, .pointer (some ⟨bb22, 0, none⟩))] hF (by kernel_rfl) fun a hF => ?_
  refine wl (eL 88 22 0 (v := .int .i64 0) hF hM (by kernel_rfl) rfl rfl (by kernel_rfl) (by kernel_rfl) fun a w hF hM => ?_)
  refine sB 1 [(89, .pointer (some ⟨bb22, 1, none⟩))] hF (by kernel_rfl) fun a hF => ?_
  refine wl (eL 90 22 1 (v := .int .i64 1048577) hF hM (by kernel_rfl) rfl rfl (by kernel_rfl) (by kernel_rfl) fun a w hF hM => ?_)
  refine wl (eM 91 (v := .tuple #[.int .i64 0, .agg #[.int .i64 0, .int .i64 0], .int .i64 2]) hF hM (by kernel_rfl) (Yld.to (yld_call (f := 14) (args := #[.agg #[.int .i64 100, .int .i64 131072], .agg #[.int .i64 0, .int .i64 0], .int .i64 0, .int .i64 1048577]) hF (by kernel_rfl) (fun _ => by kernel_rfl) (fun w hM => shElig_w 100 131072 0 0 0 1048577 w)) (by kernel_rfl)) fun a w hF hM => ?_)
  refine sB 4 [(84, .tuple #[.int .i64 0, .agg #[.int .i64 0, .int .i64 0], .int .i64 2]), (92, .int .i64 0), (93, .agg #[.int .i64 0, .int .i64 0]), (94, .int .i64 2)] hF (by kernel_rfl) fun a hF => ?_
  refine wl (eN 14 23 (t := 29) (fun b => .pointer (some ⟨b, 0, none⟩)) #[.int .i64 0, .int .i64 0] hF hM (by kernel_rfl) (fun _ => by kernel_rfl) fun bb23 a w hF hM => ?_)
  refine sB 1 [(13, .int .i64 0)] hF (by kernel_rfl) fun a hF => ?_
  refine wl (sStore (i := 23) (off := 0) (cs' := #[.int .i64 0, .int .i64 0]) hF hM (by kernel_rfl) rfl rfl (by kernel_rfl) (by kernel_rfl) rfl (by kernel_rfl) fun w hM => ?_)
  refine sB 1 [(15, .int .i64 2)] hF (by kernel_rfl) fun a hF => ?_
  refine wpList_nil ?_
  refine hK71 _ _ ?_
  refine wp_seq_k fun K72 hK72 => ?_
  refine wp_region_lit ?_
  refine sB 1 [(95, .int .i64 2)] hF (by kernel_rfl) fun a hF => ?_
  refine wl (eP 96 (v0 := .bool (!decide (2 = 2))) (v := .bool false) hF (by kernel_rfl) (fun _ => by kernel_rfl) (nT (by omega)) fun a hF => ?_)
  refine sB 2 [(97, .bool false), (98, .int .i64 0)] hF (by kernel_rfl) fun a hF => ?_
  refine wl (eP 99 (v0 := .bool (!decide (0 = 0))) (v := .bool false) hF (by kernel_rfl) (fun _ => by kernel_rfl) (nT (by omega)) fun a hF => ?_)
  refine sB 2 [(100, .bool false), (101, .bool false)] hF (by kernel_rfl) fun a hF => ?_
  refine wl (eL 102 23 0 (v := .agg #[.int .i64 0, .int .i64 0]) hF hM (by kernel_rfl) rfl rfl (by kernel_rfl) (by kernel_rfl) fun a w hF hM => ?_)
  refine sB 1 [(103, .agg #[.int .i64 0, .int .i64 0])] hF (by kernel_rfl) fun a hF => ?_
  refine wl (eM 104 (v := .bool false) hF hM (by kernel_rfl) ((yld_neq (C := Mem _ _ _) [0, 0] [0, 0] hF rfl (by kernel_rfl) (by kernel_rfl) (by kernel_rfl) rfl (by kernel_rfl) (by kernel_rfl) (by kernel_rfl) rfl rfl).to (nT (by decide))) fun a w hF hM => ?_)
  refine sB 1 [(105, .bool false)] hF (by kernel_rfl) fun a hF => ?_
  refine wpList_nil ?_
  refine hK72 _ _ ?_
  refine cF hF (by kernel_rfl) (by kernel_rfl) ?_
  refine wp_skip ?_
  refine hK69 _ _ ?_
  refine wp_region_lit ?_
  refine wl (eP 106 (v0 := .int .i64 (IntKind.i64.wrap (3 + 1))) (v := .int .i64 4) hF (by kernel_rfl) (fun _ => by kernel_rfl) (vi (by decide)) fun a hF => ?_)
  refine sB 1 [(81, .int .i64 4)] hF (by kernel_rfl) fun a hF => ?_
  refine wpList_nil ?_
  refine hK66 _ _ ?_
  refine rounds_k fun K73 hK73 => ?_
  refine wp_seq_k fun K74 hK74 => ?_
  refine wp_region_lit ?_
  refine wl (eP 82 (v0 := .bool (decide (4 < 4))) (v := .bool false) hF (by kernel_rfl) (fun _ => by kernel_rfl) (bF (by omega)) fun a hF => ?_)
  refine wpList_nil ?_
  refine hK74 _ _ ?_
  refine wp_seq_k fun K75 hK75 => ?_
  refine cF hF (by kernel_rfl) (by kernel_rfl) ?_
  refine wp_exit ?_
  refine hK43 _ _ ?_
  refine wp_seq_k fun K76 hK76 => ?_
  refine wp_region_lit ?_
  refine wl (eL 108 3 0 (v := .agg #[.int .i64 0, .int .i64 1]) hF hM (by kernel_rfl) rfl rfl (by kernel_rfl) (by kernel_rfl) fun a w hF hM => ?_)
  refine wl (eM 109 (v := .tuple #[.agg #[.int .i64 0, .int .i64 0], .int .i64 130]) hF hM (by kernel_rfl) (Yld.to (yld_call (f := 10) (args := #[.agg #[.int .i64 0, .int .i64 1]]) hF (by kernel_rfl) (fun _ => by kernel_rfl) (fun w hM => shNew_w 0 1 w)) (by kernel_rfl)) fun a w hF hM => ?_)
  refine sB 3 [(107, .tuple #[.agg #[.int .i64 0, .int .i64 0], .int .i64 130]), (110, .agg #[.int .i64 0, .int .i64 0]), (111, .int .i64 130)] hF (by kernel_rfl) fun a hF => ?_
  refine wl (eN 16 24 (t := 29) (fun b => .pointer (some ⟨b, 0, none⟩)) #[.int .i64 0, .int .i64 0] hF hM (by kernel_rfl) (fun _ => by kernel_rfl) fun bb24 a w hF hM => ?_)
  refine wl (sStore (i := 24) (off := 0) (cs' := #[.int .i64 0, .int .i64 0]) hF hM (by kernel_rfl) rfl rfl (by kernel_rfl) (by kernel_rfl) rfl (by kernel_rfl) fun w hM => ?_)
  refine sB 1 [(17, .int .i64 130)] hF (by kernel_rfl) fun a hF => ?_
  refine wpList_nil ?_
  refine hK76 _ _ ?_
  refine wp_seq_k fun K77 hK77 => ?_
  refine wp_region_lit ?_
  refine wl (eL 113 3 0 (v := .agg #[.int .i64 0, .int .i64 1]) hF hM (by kernel_rfl) rfl rfl (by kernel_rfl) (by kernel_rfl) fun a w hF hM => ?_)
  refine sB 1 [(114, .agg #[.int .i64 0, .int .i64 0])] hF (by kernel_rfl) fun a hF => ?_
  refine wl (eN 115 25 (t := 31) (fun b => .slice (some ⟨b, 0, none⟩) 1 1) #[.int .i64 0, .int .i64 0] hF hM (by kernel_rfl) (fun _ => by kernel_rfl) fun bb25 a w hF hM => ?_)
  refine wl (eM 116 (v := .tuple #[.slice none 0 0, .int .i64 130]) hF hM (by kernel_rfl) (yld_call (f := 19) (args := #[.agg #[.int .i64 0, .int .i64 1], .slice (some ⟨bb25, 0, none⟩) 1 1]) hF (by kernel_rfl) (fun _ => by kernel_rfl) (fun w hM => shRun_badlit (by decide : srE 0 1 [(0, 0)] = 130) (shRun_bad 0 1 (some ⟨bb25, 0, none⟩) [(0, 0)] _ w (hM.roRow (k := 25) rfl) (by decide)))) fun a w hF hM => ?_)
  refine sB 5 [(112, .tuple #[.slice none 0 0, .int .i64 130]), (117, .slice none 0 0), (118, .int .i64 130), (18, .slice none 0 0), (19, .int .i64 130)] hF (by kernel_rfl) fun a hF => ?_
  refine wpList_nil ?_
  refine hK77 _ _ ?_
  refine wp_seq_k fun K78 hK78 => ?_
  refine wp_region_lit ?_
  refine wl (eL 120 2 0 (v := .agg #[.int .i64 100, .int .i64 131072]) hF hM (by kernel_rfl) rfl rfl (by kernel_rfl) (by kernel_rfl) fun a w hF hM => ?_)
  refine sB 2 [(121, .agg #[.int .i64 5, .int .i64 101]), (122, .agg #[.int .i64 4, .int .i64 1])] hF (by kernel_rfl) fun a hF => ?_
  refine wl (eN 123 26 (t := 31) (fun b => .slice (some ⟨b, 0, none⟩) 2 2) #[.int .i64 5, .int .i64 101, .int .i64 4, .int .i64 1] hF hM (by kernel_rfl) (fun _ => by kernel_rfl) fun bb26 a w hF hM => ?_)
  refine wl (eM 124 (v := .tuple #[.slice none 0 0, .int .i64 131]) hF hM (by kernel_rfl) (yld_call (f := 19) (args := #[.agg #[.int .i64 100, .int .i64 131072], .slice (some ⟨bb26, 0, none⟩) 2 2]) hF (by kernel_rfl) (fun _ => by kernel_rfl) (fun w hM => shRun_badlit (by decide : srE 100 131072 [(5, 101), (4, 1)] = 131) (shRun_bad 100 131072 (some ⟨bb26, 0, none⟩) [(5, 101), (4, 1)] _ w (hM.roRow (k := 26) rfl) (by decide)))) fun a w hF hM => ?_)
  refine sB 5 [(119, .tuple #[.slice none 0 0, .int .i64 131]), (125, .slice none 0 0), (126, .int .i64 131), (20, .slice none 0 0), (21, .int .i64 131)] hF (by kernel_rfl) fun a hF => ?_
  refine wpList_nil ?_
  refine hK78 _ _ ?_
  refine wp_seq_k fun K79 hK79 => ?_
  refine wp_region_lit ?_
  refine wl (eL 128 2 0 (v := .agg #[.int .i64 100, .int .i64 131072]) hF hM (by kernel_rfl) rfl rfl (by kernel_rfl) (by kernel_rfl) fun a w hF hM => ?_)
  refine sB 3 [(129, .agg #[.int .i64 1099511627776, .int .i64 100]), (130, .agg #[.int .i64 1099511627776, .int .i64 100]), (131, .agg #[.int .i64 1099511627776, .int .i64 101])] hF (by kernel_rfl) fun a hF => ?_
  refine wl (eN 132 27 (t := 31) (fun b => .slice (some ⟨b, 0, none⟩) 3 3) #[.int .i64 1099511627776, .int .i64 100, .int .i64 1099511627776, .int .i64 100, .int .i64 1099511627776, .int .i64 101] hF hM (by kernel_rfl) (fun _ => by kernel_rfl) fun bb27 a w hF hM => ?_)
  refine wl (eM 133 (v := .tuple #[.slice none 0 0, .int .i64 4]) hF hM (by kernel_rfl) (yld_call (f := 19) (args := #[.agg #[.int .i64 100, .int .i64 131072], .slice (some ⟨bb27, 0, none⟩) 3 3]) hF (by kernel_rfl) (fun _ => by kernel_rfl) (fun w hM => shRun_badlit (by decide : srE 100 131072 [(1099511627776, 100), (1099511627776, 100), (1099511627776, 101)] = 4) (shRun_bad 100 131072 (some ⟨bb27, 0, none⟩) [(1099511627776, 100), (1099511627776, 100), (1099511627776, 101)] _ w (hM.roRow (k := 27) rfl) (by decide)))) fun a w hF hM => ?_)
  refine sB 5 [(127, .tuple #[.slice none 0 0, .int .i64 4]), (134, .slice none 0 0), (135, .int .i64 4), (22, .slice none 0 0), (23, .int .i64 4)] hF (by kernel_rfl) fun a hF => ?_
  refine wpList_nil ?_
  refine hK79 _ _ ?_
  refine wp_seq_k fun K80 hK80 => ?_
  refine wp_region_lit ?_
  refine wl (eL 137 2 0 (v := .agg #[.int .i64 100, .int .i64 131072]) hF hM (by kernel_rfl) rfl rfl (by kernel_rfl) (by kernel_rfl) fun a w hF hM => ?_)
  refine sB 2 [(138, .agg #[.int .i64 1099511627776, .int .i64 100]), (139, .agg #[.int .i64 1099511627776, .int .i64 1])] hF (by kernel_rfl) fun a hF => ?_
  refine wl (eN 140 28 (t := 31) (fun b => .slice (some ⟨b, 0, none⟩) 2 2) #[.int .i64 1099511627776, .int .i64 100, .int .i64 1099511627776, .int .i64 1] hF hM (by kernel_rfl) (fun _ => by kernel_rfl) fun bb28 a w hF hM => ?_)
  refine wl (eM 141 (v := .tuple #[.slice none 0 0, .int .i64 6]) hF hM (by kernel_rfl) (yld_call (f := 19) (args := #[.agg #[.int .i64 100, .int .i64 131072], .slice (some ⟨bb28, 0, none⟩) 2 2]) hF (by kernel_rfl) (fun _ => by kernel_rfl) (fun w hM => shRun_badlit (by decide : srE 100 131072 [(1099511627776, 100), (1099511627776, 1)] = 6) (shRun_bad 100 131072 (some ⟨bb28, 0, none⟩) [(1099511627776, 100), (1099511627776, 1)] _ w (hM.roRow (k := 28) rfl) (by decide)))) fun a w hF hM => ?_)
  refine sB 5 [(136, .tuple #[.slice none 0 0, .int .i64 6]), (142, .slice none 0 0), (143, .int .i64 6), (24, .slice none 0 0), (25, .int .i64 6)] hF (by kernel_rfl) fun a hF => ?_
  refine wpList_nil ?_
  refine hK80 _ _ ?_
  refine wp_seq_k fun K81 hK81 => ?_
  refine wp_region_lit ?_
  refine sB 1 [(144, .agg #[.int .i64 1048576, .int .i64 1])] hF (by kernel_rfl) fun a hF => ?_
  refine wl (eN 26 29 (t := 23) (fun b => .pointer (some ⟨b, 0, none⟩)) #[.int .i64 0, .int .i64 0] hF hM (by kernel_rfl) (fun _ => by kernel_rfl) fun bb29 a w hF hM => ?_)
  refine wl (sStore (i := 29) (off := 0) (cs' := #[.int .i64 1048576, .int .i64 1]) hF hM (by kernel_rfl) rfl rfl (by kernel_rfl) (by kernel_rfl) rfl (by kernel_rfl) fun w hM => ?_)
  refine wpList_nil ?_
  refine hK81 _ _ ?_
  refine wp_seq_k fun K82 hK82 => ?_
  refine wp_region_lit ?_
  refine wl (eL 146 29 0 (v := .agg #[.int .i64 1048576, .int .i64 1]) hF hM (by kernel_rfl) rfl rfl (by kernel_rfl) (by kernel_rfl) fun a w hF hM => ?_)
  refine sB 1 [(147, .agg #[.int .i64 0, .int .i64 0])] hF (by kernel_rfl) fun a hF => ?_
  refine wl (eM 148 (v := .tuple #[.int .i64 1099511627776, .agg #[.int .i64 1099511627776, .int .i64 0], .int .i64 0]) hF hM (by kernel_rfl) (Yld.to (yld_call (f := 14) (args := #[.agg #[.int .i64 1048576, .int .i64 1], .agg #[.int .i64 0, .int .i64 0], .int .i64 0, .int .i64 1048576]) hF (by kernel_rfl) (fun _ => by kernel_rfl) (fun w hM => shElig_w 1048576 1 0 0 0 1048576 w)) (by kernel_rfl)) fun a w hF hM => ?_)
  refine sB 4 [(145, .tuple #[.int .i64 1099511627776, .agg #[.int .i64 1099511627776, .int .i64 0], .int .i64 0]), (149, .int .i64 1099511627776), (150, .agg #[.int .i64 1099511627776, .int .i64 0]), (151, .int .i64 0)] hF (by kernel_rfl) fun a hF => ?_
  refine wl (eN 28 30 (t := 29) (fun b => .pointer (some ⟨b, 0, none⟩)) #[.int .i64 0, .int .i64 0] hF hM (by kernel_rfl) (fun _ => by kernel_rfl) fun bb30 a w hF hM => ?_)
  refine sB 1 [(27, .int .i64 1099511627776)] hF (by kernel_rfl) fun a hF => ?_
  refine wl (sStore (i := 30) (off := 0) (cs' := #[.int .i64 1099511627776, .int .i64 0]) hF hM (by kernel_rfl) rfl rfl (by kernel_rfl) (by kernel_rfl) rfl (by kernel_rfl) fun w hM => ?_)
  refine sB 1 [(29, .int .i64 0)] hF (by kernel_rfl) fun a hF => ?_
  refine wpList_nil ?_
  refine hK82 _ _ ?_
  refine wp_seq_k fun K83 hK83 => ?_
  refine wp_region_lit ?_
  refine wl (eL 153 29 0 (v := .agg #[.int .i64 1048576, .int .i64 1]) hF hM (by kernel_rfl) rfl rfl (by kernel_rfl) (by kernel_rfl) fun a w hF hM => ?_)
  refine sB 1 [(154, .agg #[.int .i64 1, .int .i64 0])] hF (by kernel_rfl) fun a hF => ?_
  refine wl (eM 155 (v := .tuple #[.int .i64 0, .agg #[.int .i64 0, .int .i64 0], .int .i64 6]) hF hM (by kernel_rfl) (Yld.to (yld_call (f := 14) (args := #[.agg #[.int .i64 1048576, .int .i64 1], .agg #[.int .i64 1, .int .i64 0], .int .i64 0, .int .i64 1048576]) hF (by kernel_rfl) (fun _ => by kernel_rfl) (fun w hM => shElig_w 1048576 1 1 0 0 1048576 w)) (by kernel_rfl)) fun a w hF hM => ?_)
  refine sB 4 [(152, .tuple #[.int .i64 0, .agg #[.int .i64 0, .int .i64 0], .int .i64 6]), (156, .int .i64 0), (157, .agg #[.int .i64 0, .int .i64 0]), (158, .int .i64 6)] hF (by kernel_rfl) fun a hF => ?_
  refine wl (eN 31 31 (t := 29) (fun b => .pointer (some ⟨b, 0, none⟩)) #[.int .i64 0, .int .i64 0] hF hM (by kernel_rfl) (fun _ => by kernel_rfl) fun bb31 a w hF hM => ?_)
  refine sB 1 [(30, .int .i64 0)] hF (by kernel_rfl) fun a hF => ?_
  refine wl (sStore (i := 31) (off := 0) (cs' := #[.int .i64 0, .int .i64 0]) hF hM (by kernel_rfl) rfl rfl (by kernel_rfl) (by kernel_rfl) rfl (by kernel_rfl) fun w hM => ?_)
  refine sB 1 [(32, .int .i64 6)] hF (by kernel_rfl) fun a hF => ?_
  refine wpList_nil ?_
  refine hK83 _ _ ?_
  refine wp_seq_k fun K84 hK84 => ?_
  refine wp_region_lit ?_
  refine sB 1 [(159, .bool true)] hF (by kernel_rfl) fun a hF => ?_
  refine wl (eM 160 (v := .bool true) hF hM (by kernel_rfl) (yld_call (f := 16) (args := #[]) hF (by kernel_rfl) (fun _ => by kernel_rfl) (fun w hM => works34_w w)) fun a w hF hM => ?_)
  refine sB 3 [(161, .bool true), (162, .bool true), (163, .int .i64 130)] hF (by kernel_rfl) fun a hF => ?_
  refine wl (eP 164 (v0 := .bool (decide (130 = 130))) (v := .bool true) hF (by kernel_rfl) (fun _ => by kernel_rfl) (bT (by omega)) fun a hF => ?_)
  refine sB 3 [(165, .bool true), (166, .bool true), (167, .int .i64 130)] hF (by kernel_rfl) fun a hF => ?_
  refine wl (eP 168 (v0 := .bool (decide (130 = 130))) (v := .bool true) hF (by kernel_rfl) (fun _ => by kernel_rfl) (bT (by omega)) fun a hF => ?_)
  refine sB 3 [(169, .bool true), (170, .bool true), (171, .int .i64 131)] hF (by kernel_rfl) fun a hF => ?_
  refine wl (eP 172 (v0 := .bool (decide (131 = 131))) (v := .bool true) hF (by kernel_rfl) (fun _ => by kernel_rfl) (bT (by omega)) fun a hF => ?_)
  refine sB 3 [(173, .bool true), (174, .bool true), (175, .int .i64 4)] hF (by kernel_rfl) fun a hF => ?_
  refine wl (eP 176 (v0 := .bool (decide (4 = 4))) (v := .bool true) hF (by kernel_rfl) (fun _ => by kernel_rfl) (bT (by omega)) fun a hF => ?_)
  refine sB 3 [(177, .bool true), (178, .bool true), (179, .int .i64 6)] hF (by kernel_rfl) fun a hF => ?_
  refine wl (eP 180 (v0 := .bool (decide (6 = 6))) (v := .bool true) hF (by kernel_rfl) (fun _ => by kernel_rfl) (bT (by omega)) fun a hF => ?_)
  refine sB 3 [(181, .bool true), (182, .bool true), (183, .int .i64 1099511627776)] hF (by kernel_rfl) fun a hF => ?_
  refine wl (eP 184 (v0 := .bool (decide (1099511627776 = 1099511627776))) (v := .bool true) hF (by kernel_rfl) (fun _ => by kernel_rfl) (bT (by omega)) fun a hF => ?_)
  refine sB 2 [(185, .bool true), (186, .bool true)] hF (by kernel_rfl) fun a hF => ?_
  refine wl (eL 187 30 0 (v := .agg #[.int .i64 1099511627776, .int .i64 0]) hF hM (by kernel_rfl) rfl rfl (by kernel_rfl) (by kernel_rfl) fun a w hF hM => ?_)
  refine sB 1 [(188, .agg #[.int .i64 1099511627776, .int .i64 0])] hF (by kernel_rfl) fun a hF => ?_
  refine wl (eM 189 (v := .bool true) hF hM (by kernel_rfl) ((yld_eql (C := Mem _ _ _) [1099511627776, 0] [1099511627776, 0] hF rfl (by kernel_rfl) (by kernel_rfl) (by kernel_rfl) rfl (by kernel_rfl) (by kernel_rfl) (by kernel_rfl) rfl rfl).to (bT (by decide))) fun a w hF hM => ?_)
  refine sB 3 [(190, .bool true), (191, .bool true), (192, .int .i64 0)] hF (by kernel_rfl) fun a hF => ?_
  refine wl (eP 193 (v0 := .bool (decide (0 = 0))) (v := .bool true) hF (by kernel_rfl) (fun _ => by kernel_rfl) (bT (by omega)) fun a hF => ?_)
  refine sB 3 [(194, .bool true), (195, .bool true), (196, .int .i64 6)] hF (by kernel_rfl) fun a hF => ?_
  refine wl (eP 197 (v0 := .bool (decide (6 = 6))) (v := .bool true) hF (by kernel_rfl) (fun _ => by kernel_rfl) (bT (by omega)) fun a hF => ?_)
  refine sB 2 [(198, .bool true), (199, .bool true)] hF (by kernel_rfl) fun a hF => ?_
  refine wl (eL 200 2 0 (v := .agg #[.int .i64 100, .int .i64 131072]) hF hM (by kernel_rfl) rfl rfl (by kernel_rfl) (by kernel_rfl) fun a w hF hM => ?_)
  refine wl (sC (f := 24) (args := #[.agg #[.int .i64 100, .int .i64 131072], .slice none 0 0, .slice none 0 0]) hF (by kernel_rfl) rfl (by decide) (by kernel_rfl) (fun _ => by kernel_rfl) ?_)
  refine enterK 22 Try.func24 rfl rfl rfl ?_
  intro a1 hF1 QR85 hR85 hNR85
  refine wp_seq_k fun K86 hK86 => ?_
  refine wp_region_lit ?_
  refine wl (eN 3 32 (t := 23) (fun b => .pointer (some ⟨b, 0, none⟩)) #[.int .i64 100, .int .i64 131072] hF1 hM (by kernel_rfl) (fun _ => by kernel_rfl) fun bb32 a1 w hF1 hM => ?_)
  refine sB 1 [(6, .bool false)] hF1 (by kernel_rfl) fun a1 hF1 => ?_
  refine wpList_nil ?_
  refine hK86 _ _ ?_
  refine wp_seq_k fun K87 hK87 => ?_
  refine wp_region_lit ?_
  refine wl (eL 10 32 0 (v := .agg #[.int .i64 100, .int .i64 131072]) hF1 hM (by kernel_rfl) rfl rfl (by kernel_rfl) (by kernel_rfl) fun a1 w hF1 hM => ?_)
  refine sB 1 [(11, .slice none 0 0)] hF1 (by kernel_rfl) fun a1 hF1 => ?_
  refine wl (sOwn 33 (f := 19) (args := #[.agg #[.int .i64 100, .int .i64 131072], .slice none 0 0]) (mk := fun v => .tuple #[v, .int .i64 0]) (e := 3) (size := 1) (m := 0) (xs := (([] : List Int).map (Value.int .i64))) hF1 hM (by kernel_rfl) rfl (by decide) (by kernel_rfl) (fun _ => by kernel_rfl) (shRun_lit (by decide : shUp 100 131072 ([] : List (Int × Int)) 0 = []) (shRun_ok 100 131072 none ([] : List (Int × Int)) _ w Ro.nil (by decide))) fun AA33 cc33 a1 w hF1 hM => ?_)
  refine sB 5 [(9, .tuple #[.slice AA33 0 cc33, .int .i64 0]), (13, .slice AA33 0 cc33), (14, .int .i64 0), (7, .slice AA33 0 cc33), (8, .int .i64 0)] hF1 (by kernel_rfl) fun a1 hF1 => ?_
  refine wpList_nil ?_
  refine hK87 _ _ ?_
  refine wp_seq_k fun K88 hK88 => ?_
  refine wp_region_lit ?_
  refine sB 1 [(15, .int .i64 0)] hF1 (by kernel_rfl) fun a1 hF1 => ?_
  refine wl (eP 16 (v0 := .bool (decide (0 = 0))) (v := .bool true) hF1 (by kernel_rfl) (fun _ => by kernel_rfl) (bT (by omega)) fun a1 hF1 => ?_)
  refine sB 3 [(17, .bool true), (18, .slice AA33 0 cc33), (19, .slice none 0 0)] hF1 (by kernel_rfl) fun a1 hF1 => ?_
  refine wl (eM 20 (v := .bool true) hF1 hM (by kernel_rfl) (yld_call (f := 21) (args := #[.slice AA33 0 cc33, .slice none 0 0]) hF1 (by kernel_rfl) (fun _ => by kernel_rfl) (fun w hM => same_yes AA33 ([] : List Int) cc33 none ([] : List Int) 0 w (ro_of_own (hM.ok 33 _ rfl)) Ro.nil (by decide) (by decide))) fun a1 w hF1 hM => ?_)
  refine sB 2 [(21, .bool true), (6, .bool true)] hF1 (by kernel_rfl) fun a1 hF1 => ?_
  refine wpList_nil ?_
  refine hK88 _ _ ?_
  refine wp_ret ?_
  refine hR85 _ _ ?_
  refine ret_of hF1 hM (.tmp rfl (.nil)) ⟨_, rfl, ?_⟩
  intro a hF
  refine sB 2 [(202, .bool true), (203, .bool true)] hF (by kernel_rfl) fun a hF => ?_
  refine wl (eL 204 2 0 (v := .agg #[.int .i64 100, .int .i64 131072]) hF hM (by kernel_rfl) rfl rfl (by kernel_rfl) (by kernel_rfl) fun a w hF hM => ?_)
  refine sB 4 [(205, .agg #[.int .i64 3, .int .i64 100]), (206, .agg #[.int .i64 4, .int .i64 100]), (207, .agg #[.int .i64 5000, .int .i64 50]), (208, .agg #[.int .i64 5000, .int .i64 51])] hF (by kernel_rfl) fun a hF => ?_
  refine wl (eN 209 34 (t := 31) (fun b => .slice (some ⟨b, 0, none⟩) 4 4) #[.int .i64 3, .int .i64 100, .int .i64 4, .int .i64 100, .int .i64 5000, .int .i64 50, .int .i64 5000, .int .i64 51] hF hM (by kernel_rfl) (fun _ => by kernel_rfl) fun bb34 a w hF hM => ?_)
  refine wl (eN 210 35 (t := 3) (fun b => .slice (some ⟨b, 0, none⟩) 4 4) #[.int .i64 3, .int .i64 803, .int .i64 5000, .int .i64 5008] hF hM (by kernel_rfl) (fun _ => by kernel_rfl) fun bb35 a w hF hM => ?_)
  refine wl (sC (f := 24) (args := #[.agg #[.int .i64 100, .int .i64 131072], .slice (some ⟨bb34, 0, none⟩) 4 4, .slice (some ⟨bb35, 0, none⟩) 4 4]) hF (by kernel_rfl) rfl (by decide) (by kernel_rfl) (fun _ => by kernel_rfl) ?_)
  refine enterK 22 Try.func24 rfl rfl rfl ?_
  intro a1 hF1 QR89 hR89 hNR89
  refine wp_seq_k fun K90 hK90 => ?_
  refine wp_region_lit ?_
  refine wl (eN 3 36 (t := 23) (fun b => .pointer (some ⟨b, 0, none⟩)) #[.int .i64 100, .int .i64 131072] hF1 hM (by kernel_rfl) (fun _ => by kernel_rfl) fun bb36 a1 w hF1 hM => ?_)
  refine sB 1 [(6, .bool false)] hF1 (by kernel_rfl) fun a1 hF1 => ?_
  refine wpList_nil ?_
  refine hK90 _ _ ?_
  refine wp_seq_k fun K91 hK91 => ?_
  refine wp_region_lit ?_
  refine wl (eL 10 36 0 (v := .agg #[.int .i64 100, .int .i64 131072]) hF1 hM (by kernel_rfl) rfl rfl (by kernel_rfl) (by kernel_rfl) fun a1 w hF1 hM => ?_)
  refine sB 1 [(11, .slice (some ⟨bb34, 0, none⟩) 4 4)] hF1 (by kernel_rfl) fun a1 hF1 => ?_
  refine wl (sOwn 37 (f := 19) (args := #[.agg #[.int .i64 100, .int .i64 131072], .slice (some ⟨bb34, 0, none⟩) 4 4]) (mk := fun v => .tuple #[v, .int .i64 0]) (e := 3) (size := 1) (m := 4) (xs := (([3, 803, 5000, 5008]).map (Value.int .i64))) hF1 hM (by kernel_rfl) rfl (by decide) (by kernel_rfl) (fun _ => by kernel_rfl) (shRun_lit (by decide : shUp 100 131072 [(3, 100), (4, 100), (5000, 50), (5000, 51)] 4 = [3, 803, 5000, 5008]) (shRun_ok 100 131072 (some ⟨bb34, 0, none⟩) [(3, 100), (4, 100), (5000, 50), (5000, 51)] _ w (hM.roRow (k := 34) rfl) (by decide))) fun AA37 cc37 a1 w hF1 hM => ?_)
  refine sB 5 [(9, .tuple #[.slice AA37 4 cc37, .int .i64 0]), (13, .slice AA37 4 cc37), (14, .int .i64 0), (7, .slice AA37 4 cc37), (8, .int .i64 0)] hF1 (by kernel_rfl) fun a1 hF1 => ?_
  refine wpList_nil ?_
  refine hK91 _ _ ?_
  refine wp_seq_k fun K92 hK92 => ?_
  refine wp_region_lit ?_
  refine sB 1 [(15, .int .i64 0)] hF1 (by kernel_rfl) fun a1 hF1 => ?_
  refine wl (eP 16 (v0 := .bool (decide (0 = 0))) (v := .bool true) hF1 (by kernel_rfl) (fun _ => by kernel_rfl) (bT (by omega)) fun a1 hF1 => ?_)
  refine sB 3 [(17, .bool true), (18, .slice AA37 4 cc37), (19, .slice (some ⟨bb35, 0, none⟩) 4 4)] hF1 (by kernel_rfl) fun a1 hF1 => ?_
  refine wl (eM 20 (v := .bool true) hF1 hM (by kernel_rfl) (yld_call (f := 21) (args := #[.slice AA37 4 cc37, .slice (some ⟨bb35, 0, none⟩) 4 4]) hF1 (by kernel_rfl) (fun _ => by kernel_rfl) (fun w hM => same_yes AA37 ([3, 803, 5000, 5008]) cc37 (some ⟨bb35, 0, none⟩) [3, 803, 5000, 5008] 4 w (ro_of_own (hM.ok 37 _ rfl)) (hM.roRow (k := 35) rfl) (by decide) (by decide))) fun a1 w hF1 hM => ?_)
  refine sB 2 [(21, .bool true), (6, .bool true)] hF1 (by kernel_rfl) fun a1 hF1 => ?_
  refine wpList_nil ?_
  refine hK92 _ _ ?_
  refine wp_ret ?_
  refine hR89 _ _ ?_
  refine ret_of hF1 hM (.tmp rfl (.nil)) ⟨_, rfl, ?_⟩
  intro a hF
  refine sB 2 [(212, .bool true), (0, .bool true)] hF (by kernel_rfl) fun a hF => ?_
  refine wpList_nil ?_
  refine hK84 _ _ ?_
  refine wp_ret ?_
  refine hR0 _ _ ?_
  refine ret_of hF hM (.tmp rfl (.nil)) ?_
  exact ⟨rfl, hM.bel⟩

end Go.Proofs.Ytaekcgapbkmepaa
