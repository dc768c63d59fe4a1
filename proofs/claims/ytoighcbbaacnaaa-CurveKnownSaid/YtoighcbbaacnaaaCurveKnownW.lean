/-
  The walk of CurveKnown.
-/
import Derived.Test.YtoighcbbaacnaaaCurveH
namespace Go.Proofs.Ytoighcbbaacnaaa
open Go.RowKit
set_option linter.unusedVariables false
set_option linter.unusedSimpArgs false

set_option maxRecDepth 100000 in
set_option maxHeartbeats 8000000 in
theorem curveKnown_walk (w0 : World) :
    Calls Try.prog 10 #[] w0 (Ret w0 (.bool true)) := by
  refine enterK 244 Try.func10 rfl rfl rfl ?_
  intro a hF Q0 hR0 hN0
  have hM := Mem.start w0
  refine wp_seq_k fun K1 hK1 => ?_
  refine wp_region_lit ?_
  refine sB 1 [(0, .bool false)] hF (by kernel_rfl) fun a hF => ?_
  refine wpList_nil ?_
  refine hK1 _ _ ?_
  refine wp_seq_k fun K2 hK2 => ?_
  refine wp_region_lit ?_
  refine sB 2 [(37, .agg #[.int .i64 1, .int .i64 0]), (38, .agg #[.int .i64 1, .int .i64 1])] hF (by kernel_rfl) fun a hF => ?_
  refine wl (eN 1 1 (t := 23) (fun b => .pointer (some ⟨b, 0, none⟩)) #[.int .i64 0, .int .i64 0] hF hM (by kernel_rfl) (fun _ => by kernel_rfl) fun bb1 a w hF hM => ?_)
  refine wl (eN 2 2 (t := 39) (fun b => .pointer (some ⟨b, 0, none⟩)) #[.int .i64 0, .int .i64 0] hF hM (by kernel_rfl) (fun _ => by kernel_rfl) fun bb2 a w hF hM => ?_)
  refine wl (sStore (i := 1) (off := 0) (cs' := #[.int .i64 1, .int .i64 0]) hF hM (by kernel_rfl) rfl rfl (by kernel_rfl) (by kernel_rfl) rfl (by kernel_rfl) fun w hM => ?_)
  refine wl (sStore (i := 2) (off := 0) (cs' := #[.int .i64 1, .int .i64 1]) hF hM (by kernel_rfl) rfl rfl (by kernel_rfl) (by kernel_rfl) rfl (by kernel_rfl) fun w hM => ?_)
  refine wpList_nil ?_
  refine hK2 _ _ ?_
  refine wp_seq_k fun K3 hK3 => ?_
  refine wp_seq_k fun K4 hK4 => ?_
  refine wp_region_lit ?_
  refine sB 7 [(39, .agg #[.int .i64 0, .int .i64 0]), (40, .agg #[.int .i64 1, .int .i64 (-1)]), (41, .agg #[.int .i64 2097153, .int .i64 0]), (42, .agg #[.int .i64 1, .int .i64 268435457]), (43, .agg #[.int .i64 (-1), .int .i64 5]), (44, .agg #[.int .i64 0, .int .i64 0, .int .i64 1, .int .i64 (-1), .int .i64 2097153, .int .i64 0, .int .i64 1, .int .i64 268435457, .int .i64 (-1), .int .i64 5]), (45, .int .i64 0)] hF (by kernel_rfl) fun a hF => ?_
  refine wpList_nil ?_
  refine hK4 _ _ ?_
  refine wp_block ?_
  refine wp_loop_rounds 6 ?_
  refine rounds_k fun K5 hK5 => ?_
  refine wp_seq_k fun K6 hK6 => ?_
  refine wp_region_lit ?_
  refine wl (eP 46 (v0 := .bool (decide (0 < 5))) (v := .bool true) hF (by kernel_rfl) (fun _ => by kernel_rfl) (bT (by omega)) fun a hF => ?_)
  refine wpList_nil ?_
  refine hK6 _ _ ?_
  refine wp_seq_k fun K7 hK7 => ?_
  refine cT hF (by kernel_rfl) (by kernel_rfl) ?_
  refine wp_skip ?_
  refine hK7 _ _ ?_
  refine wp_seq_k fun K8 hK8 => ?_
  refine wp_block ?_
  refine wp_seq_k fun K9 hK9 => ?_
  refine wp_region_lit ?_
  refine sB 1 [(47, .agg #[.int .i64 0, .int .i64 0])] hF (by kernel_rfl) fun a hF => ?_
  refine wl (eN 4 3 (t := 23) (fun b => .pointer (some ⟨b, 0, none⟩)) #[.int .i64 0, .int .i64 0] hF hM (by kernel_rfl) (fun _ => by kernel_rfl) fun bb3 a w hF hM => ?_)
  refine wl (sStore (i := 3) (off := 0) (cs' := #[.int .i64 0, .int .i64 0]) hF hM (by kernel_rfl) rfl rfl (by kernel_rfl) (by kernel_rfl) rfl (by kernel_rfl) fun w hM => ?_)
  refine wpList_nil ?_
  refine hK9 _ _ ?_
  refine wp_seq_k fun K10 hK10 => ?_
  refine wp_region_lit ?_
  refine wl (eL 49 2 0 (v := .agg #[.int .i64 1, .int .i64 1]) hF hM (by kernel_rfl) rfl rfl (by kernel_rfl) (by kernel_rfl) fun a w hF hM => ?_)
  refine wl (eN 50 4 (t := 39) (fun b => .slice (some ⟨b, 0, none⟩) 1 1) #[.int .i64 1, .int .i64 1] hF hM (by kernel_rfl) (fun _ => by kernel_rfl) fun bb4 a w hF hM => ?_)
  refine wl (eL 51 3 0 (v := .agg #[.int .i64 0, .int .i64 0]) hF hM (by kernel_rfl) rfl rfl (by kernel_rfl) (by kernel_rfl) fun a w hF hM => ?_)
  refine wl (eM 52 (v := .tuple #[.int .i64 0, .int .i64 140]) hF hM (by kernel_rfl) (Yld.to (yld_call (f := 20) (args := #[.slice (some ⟨bb4, 0, none⟩) 1 1, .agg #[.int .i64 0, .int .i64 0]]) hF (by kernel_rfl) (fun _ => by kernel_rfl) (fun w hM => delay_w 0 0 (some ⟨bb4, 0, none⟩) [(1, 1)] _ w (hM.roRow (k := 4) rfl))) (by kernel_rfl)) fun a w hF hM => ?_)
  refine sB 5 [(48, .tuple #[.int .i64 0, .int .i64 140]), (53, .int .i64 0), (54, .int .i64 140), (5, .int .i64 0), (6, .int .i64 140)] hF (by kernel_rfl) fun a hF => ?_
  refine wpList_nil ?_
  refine hK10 _ _ ?_
  refine wp_seq_k fun K11 hK11 => ?_
  refine wp_region_lit ?_
  refine wl (eL 56 2 0 (v := .agg #[.int .i64 1, .int .i64 1]) hF hM (by kernel_rfl) rfl rfl (by kernel_rfl) (by kernel_rfl) fun a w hF hM => ?_)
  refine sB 1 [(57, .agg #[.int .i64 0, .int .i64 0])] hF (by kernel_rfl) fun a hF => ?_
  refine wl (eN 58 5 (t := 39) (fun b => .slice (some ⟨b, 0, none⟩) 2 2) #[.int .i64 1, .int .i64 1, .int .i64 0, .int .i64 0] hF hM (by kernel_rfl) (fun _ => by kernel_rfl) fun bb5 a w hF hM => ?_)
  refine wl (eL 59 3 0 (v := .agg #[.int .i64 0, .int .i64 0]) hF hM (by kernel_rfl) rfl rfl (by kernel_rfl) (by kernel_rfl) fun a w hF hM => ?_)
  refine wl (eM 60 (v := .tuple #[.int .i64 0, .int .i64 130]) hF hM (by kernel_rfl) (Yld.to (yld_call (f := 20) (args := #[.slice (some ⟨bb5, 0, none⟩) 2 2, .agg #[.int .i64 0, .int .i64 0]]) hF (by kernel_rfl) (fun _ => by kernel_rfl) (fun w hM => delay_w 0 0 (some ⟨bb5, 0, none⟩) [(1, 1), (0, 0)] _ w (hM.roRow (k := 5) rfl))) (by kernel_rfl)) fun a w hF hM => ?_)
  refine sB 5 [(55, .tuple #[.int .i64 0, .int .i64 130]), (61, .int .i64 0), (62, .int .i64 130), (7, .int .i64 0), (8, .int .i64 130)] hF (by kernel_rfl) fun a hF => ?_
  refine wpList_nil ?_
  refine hK11 _ _ ?_
  refine wp_seq_k fun K12 hK12 => ?_
  refine wp_region_lit ?_
  refine wl (eL 64 2 0 (v := .agg #[.int .i64 1, .int .i64 1]) hF hM (by kernel_rfl) rfl rfl (by kernel_rfl) (by kernel_rfl) fun a w hF hM => ?_)
  refine wl (eL 65 3 0 (v := .agg #[.int .i64 0, .int .i64 0]) hF hM (by kernel_rfl) rfl rfl (by kernel_rfl) (by kernel_rfl) fun a w hF hM => ?_)
  refine wl (eM 66 (v := .tuple #[.int .i64 0, .int .i64 140]) hF hM (by kernel_rfl) (Yld.to (yld_call (f := 22) (args := #[.agg #[.int .i64 1, .int .i64 1], .agg #[.int .i64 0, .int .i64 0]]) hF (by kernel_rfl) (fun _ => by kernel_rfl) (fun w hM => backlog_w 1 1 0 0 w)) (by kernel_rfl)) fun a w hF hM => ?_)
  refine sB 5 [(63, .tuple #[.int .i64 0, .int .i64 140]), (67, .int .i64 0), (68, .int .i64 140), (9, .int .i64 0), (10, .int .i64 140)] hF (by kernel_rfl) fun a hF => ?_
  refine wpList_nil ?_
  refine hK12 _ _ ?_
  refine wp_seq_k fun K13 hK13 => ?_
  refine wp_region_lit ?_
  refine wl (eL 70 2 0 (v := .agg #[.int .i64 1, .int .i64 1]) hF hM (by kernel_rfl) rfl rfl (by kernel_rfl) (by kernel_rfl) fun a w hF hM => ?_)
  refine wl (eL 71 3 0 (v := .agg #[.int .i64 0, .int .i64 0]) hF hM (by kernel_rfl) rfl rfl (by kernel_rfl) (by kernel_rfl) fun a w hF hM => ?_)
  refine wl (eM 72 (v := .tuple #[.agg #[.int .i64 0, .int .i64 0], .int .i64 140]) hF hM (by kernel_rfl) (Yld.to (yld_call (f := 24) (args := #[.agg #[.int .i64 1, .int .i64 1], .agg #[.int .i64 0, .int .i64 0]]) hF (by kernel_rfl) (fun _ => by kernel_rfl) (fun w hM => output_w 1 1 0 0 w)) (by kernel_rfl)) fun a w hF hM => ?_)
  refine sB 3 [(69, .tuple #[.agg #[.int .i64 0, .int .i64 0], .int .i64 140]), (73, .agg #[.int .i64 0, .int .i64 0]), (74, .int .i64 140)] hF (by kernel_rfl) fun a hF => ?_
  refine wl (eN 11 6 (t := 39) (fun b => .pointer (some ⟨b, 0, none⟩)) #[.int .i64 0, .int .i64 0] hF hM (by kernel_rfl) (fun _ => by kernel_rfl) fun bb6 a w hF hM => ?_)
  refine wl (sStore (i := 6) (off := 0) (cs' := #[.int .i64 0, .int .i64 0]) hF hM (by kernel_rfl) rfl rfl (by kernel_rfl) (by kernel_rfl) rfl (by kernel_rfl) fun w hM => ?_)
  refine sB 1 [(12, .int .i64 140)] hF (by kernel_rfl) fun a hF => ?_
  refine wpList_nil ?_
  refine hK13 _ _ ?_
  refine wp_seq_k fun K14 hK14 => ?_
  refine wp_region_lit ?_
  refine wl (eL 76 1 0 (v := .agg #[.int .i64 1, .int .i64 0]) hF hM (by kernel_rfl) rfl rfl (by kernel_rfl) (by kernel_rfl) fun a w hF hM => ?_)
  refine wl (eL 77 3 0 (v := .agg #[.int .i64 0, .int .i64 0]) hF hM (by kernel_rfl) rfl rfl (by kernel_rfl) (by kernel_rfl) fun a w hF hM => ?_)
  refine wl (eM 78 (v := .tuple #[.agg #[.int .i64 0, .int .i64 0], .int .i64 140]) hF hM (by kernel_rfl) (Yld.to (yld_call (f := 14) (args := #[.agg #[.int .i64 1, .int .i64 0], .agg #[.int .i64 0, .int .i64 0]]) hF (by kernel_rfl) (fun _ => by kernel_rfl) (fun w hM => join_w 1 0 0 0 w)) (by kernel_rfl)) fun a w hF hM => ?_)
  refine sB 3 [(75, .tuple #[.agg #[.int .i64 0, .int .i64 0], .int .i64 140]), (79, .agg #[.int .i64 0, .int .i64 0]), (80, .int .i64 140)] hF (by kernel_rfl) fun a hF => ?_
  refine wl (eN 13 7 (t := 23) (fun b => .pointer (some ⟨b, 0, none⟩)) #[.int .i64 0, .int .i64 0] hF hM (by kernel_rfl) (fun _ => by kernel_rfl) fun bb7 a w hF hM => ?_)
  refine wl (sStore (i := 7) (off := 0) (cs' := #[.int .i64 0, .int .i64 0]) hF hM (by kernel_rfl) rfl rfl (by kernel_rfl) (by kernel_rfl) rfl (by kernel_rfl) fun w hM => ?_)
  refine sB 1 [(14, .int .i64 140)] hF (by kernel_rfl) fun a hF => ?_
  refine wpList_nil ?_
  refine hK14 _ _ ?_
  refine wp_seq_k fun K15 hK15 => ?_
  refine wp_region_lit ?_
  refine wl (eL 82 3 0 (v := .agg #[.int .i64 0, .int .i64 0]) hF hM (by kernel_rfl) rfl rfl (by kernel_rfl) (by kernel_rfl) fun a w hF hM => ?_)
  refine wl (eM 83 (v := .tuple #[.slice none 0 0, .int .i64 140]) hF hM (by kernel_rfl) (yld_call (f := 27) (args := #[.slice none 0 0, .agg #[.int .i64 0, .int .i64 0]]) hF (by kernel_rfl) (fun _ => by kernel_rfl) (fun w hM => drain_bad (by decide : drE 0 0 ([] : List (Int × Int)) = 140) (by decide) (drain_err 0 0 none ([] : List (Int × Int)) _ w Ro.nil (by decide)))) fun a w hF hM => ?_)
  refine sB 5 [(81, .tuple #[.slice none 0 0, .int .i64 140]), (84, .slice none 0 0), (85, .int .i64 140), (15, .slice none 0 0), (16, .int .i64 140)] hF (by kernel_rfl) fun a hF => ?_
  refine wpList_nil ?_
  refine hK15 _ _ ?_
  refine wp_seq_k fun K16 hK16 => ?_
  refine wp_region_lit ?_
  refine sB 1 [(87, .agg #[.int .i64 (-1), .int .i64 1])] hF (by kernel_rfl) fun a hF => ?_
  refine wl (eN 88 8 (t := 64) (fun b => .slice (some ⟨b, 0, none⟩) 1 1) #[.int .i64 (-1), .int .i64 1] hF hM (by kernel_rfl) (fun _ => by kernel_rfl) fun bb8 a w hF hM => ?_)
  refine wl (eL 89 3 0 (v := .agg #[.int .i64 0, .int .i64 0]) hF hM (by kernel_rfl) rfl rfl (by kernel_rfl) (by kernel_rfl) fun a w hF hM => ?_)
  refine wl (eM 90 (v := .tuple #[.slice none 0 0, .int .i64 131]) hF hM (by kernel_rfl) (yld_call (f := 27) (args := #[.slice (some ⟨bb8, 0, none⟩) 1 1, .agg #[.int .i64 0, .int .i64 0]]) hF (by kernel_rfl) (fun _ => by kernel_rfl) (fun w hM => drain_bad (by decide : drE 0 0 [(-1, 1)] = 131) (by decide) (drain_err 0 0 (some ⟨bb8, 0, none⟩) [(-1, 1)] _ w (hM.roRow (k := 8) rfl) (by decide)))) fun a w hF hM => ?_)
  refine sB 5 [(86, .tuple #[.slice none 0 0, .int .i64 131]), (91, .slice none 0 0), (92, .int .i64 131), (17, .slice none 0 0), (18, .int .i64 131)] hF (by kernel_rfl) fun a hF => ?_
  refine wpList_nil ?_
  refine hK16 _ _ ?_
  refine wp_seq_k fun K17 hK17 => ?_
  refine wp_region_lit ?_
  refine wl (eL 93 3 0 (v := .agg #[.int .i64 0, .int .i64 0]) hF hM (by kernel_rfl) rfl rfl (by kernel_rfl) (by kernel_rfl) fun a w hF hM => ?_)
  refine wl (eM 94 (v := .int .i64 140) hF hM (by kernel_rfl) (Yld.to (yld_call (f := 16) (args := #[.agg #[.int .i64 0, .int .i64 0]]) hF (by kernel_rfl) (fun _ => by kernel_rfl) (fun w hM => svCheck_w 0 0 w)) (by kernel_rfl)) fun a w hF hM => ?_)
  refine wl (eP 95 (v0 := .bool (!decide (140 = 140))) (v := .bool false) hF (by kernel_rfl) (fun _ => by kernel_rfl) (nT (by omega)) fun a hF => ?_)
  refine sB 2 [(96, .bool false), (97, .int .i64 140)] hF (by kernel_rfl) fun a hF => ?_
  refine wl (eP 98 (v0 := .bool (!decide (140 = 140))) (v := .bool false) hF (by kernel_rfl) (fun _ => by kernel_rfl) (nT (by omega)) fun a hF => ?_)
  refine sB 3 [(99, .bool false), (100, .bool false), (101, .int .i64 130)] hF (by kernel_rfl) fun a hF => ?_
  refine wl (eP 102 (v0 := .bool (!decide (130 = 130))) (v := .bool false) hF (by kernel_rfl) (fun _ => by kernel_rfl) (nT (by omega)) fun a hF => ?_)
  refine sB 3 [(103, .bool false), (104, .bool false), (105, .int .i64 140)] hF (by kernel_rfl) fun a hF => ?_
  refine wl (eP 106 (v0 := .bool (!decide (140 = 140))) (v := .bool false) hF (by kernel_rfl) (fun _ => by kernel_rfl) (nT (by omega)) fun a hF => ?_)
  refine sB 3 [(107, .bool false), (108, .bool false), (109, .int .i64 140)] hF (by kernel_rfl) fun a hF => ?_
  refine wl (eP 110 (v0 := .bool (!decide (140 = 140))) (v := .bool false) hF (by kernel_rfl) (fun _ => by kernel_rfl) (nT (by omega)) fun a hF => ?_)
  refine sB 3 [(111, .bool false), (112, .bool false), (113, .int .i64 140)] hF (by kernel_rfl) fun a hF => ?_
  refine wl (eP 114 (v0 := .bool (!decide (140 = 140))) (v := .bool false) hF (by kernel_rfl) (fun _ => by kernel_rfl) (nT (by omega)) fun a hF => ?_)
  refine sB 3 [(115, .bool false), (116, .bool false), (117, .int .i64 140)] hF (by kernel_rfl) fun a hF => ?_
  refine wl (eP 118 (v0 := .bool (!decide (140 = 140))) (v := .bool false) hF (by kernel_rfl) (fun _ => by kernel_rfl) (nT (by omega)) fun a hF => ?_)
  refine sB 3 [(119, .bool false), (120, .bool false), (121, .int .i64 131)] hF (by kernel_rfl) fun a hF => ?_
  refine wl (eP 122 (v0 := .bool (!decide (131 = 131))) (v := .bool false) hF (by kernel_rfl) (fun _ => by kernel_rfl) (nT (by omega)) fun a hF => ?_)
  refine sB 1 [(123, .bool false)] hF (by kernel_rfl) fun a hF => ?_
  refine wpList_nil ?_
  refine hK17 _ _ ?_
  refine cF hF (by kernel_rfl) (by kernel_rfl) ?_
  refine wp_skip ?_
  refine hK8 _ _ ?_
  refine wp_region_lit ?_
  refine wl (eP 124 (v0 := .int .i64 (IntKind.i64.wrap (0 + 1))) (v := .int .i64 1) hF (by kernel_rfl) (fun _ => by kernel_rfl) (vi (by decide)) fun a hF => ?_)
  refine sB 1 [(45, .int .i64 1)] hF (by kernel_rfl) fun a hF => ?_
  refine wpList_nil ?_
  refine hK5 _ _ ?_
  refine rounds_k fun K18 hK18 => ?_
  refine wp_seq_k fun K19 hK19 => ?_
  refine wp_region_lit ?_
  refine wl (eP 46 (v0 := .bool (decide (1 < 5))) (v := .bool true) hF (by kernel_rfl) (fun _ => by kernel_rfl) (bT (by omega)) fun a hF => ?_)
  refine wpList_nil ?_
  refine hK19 _ _ ?_
  refine wp_seq_k fun K20 hK20 => ?_
  refine cT hF (by kernel_rfl) (by kernel_rfl) ?_
  refine wp_skip ?_
  refine hK20 _ _ ?_
  refine wp_seq_k fun K21 hK21 => ?_
  refine wp_block ?_
  refine wp_seq_k fun K22 hK22 => ?_
  refine wp_region_lit ?_
  refine sB 1 [(47, .agg #[.int .i64 1, .int .i64 (-1)])] hF (by kernel_rfl) fun a hF => ?_
  refine wl (eN 4 9 (t := 23) (fun b => .pointer (some ⟨b, 0, none⟩)) #[.int .i64 0, .int .i64 0] hF hM (by kernel_rfl) (fun _ => by kernel_rfl) fun bb9 a w hF hM => ?_)
  refine wl (sStore (i := 9) (off := 0) (cs' := #[.int .i64 1, .int .i64 (-1)]) hF hM (by kernel_rfl) rfl rfl (by kernel_rfl) (by kernel_rfl) rfl (by kernel_rfl) fun w hM => ?_)
  refine wpList_nil ?_
  refine hK22 _ _ ?_
  refine wp_seq_k fun K23 hK23 => ?_
  refine wp_region_lit ?_
  refine wl (eL 49 2 0 (v := .agg #[.int .i64 1, .int .i64 1]) hF hM (by kernel_rfl) rfl rfl (by kernel_rfl) (by kernel_rfl) fun a w hF hM => ?_)
  refine wl (eN 50 10 (t := 39) (fun b => .slice (some ⟨b, 0, none⟩) 1 1) #[.int .i64 1, .int .i64 1] hF hM (by kernel_rfl) (fun _ => by kernel_rfl) fun bb10 a w hF hM => ?_)
  refine wl (eL 51 9 0 (v := .agg #[.int .i64 1, .int .i64 (-1)]) hF hM (by kernel_rfl) rfl rfl (by kernel_rfl) (by kernel_rfl) fun a w hF hM => ?_)
  refine wl (eM 52 (v := .tuple #[.int .i64 0, .int .i64 140]) hF hM (by kernel_rfl) (Yld.to (yld_call (f := 20) (args := #[.slice (some ⟨bb10, 0, none⟩) 1 1, .agg #[.int .i64 1, .int .i64 (-1)]]) hF (by kernel_rfl) (fun _ => by kernel_rfl) (fun w hM => delay_w 1 (-1) (some ⟨bb10, 0, none⟩) [(1, 1)] _ w (hM.roRow (k := 10) rfl))) (by kernel_rfl)) fun a w hF hM => ?_)
  refine sB 5 [(48, .tuple #[.int .i64 0, .int .i64 140]), (53, .int .i64 0), (54, .int .i64 140), (5, .int .i64 0), (6, .int .i64 140)] hF (by kernel_rfl) fun a hF => ?_
  refine wpList_nil ?_
  refine hK23 _ _ ?_
  refine wp_seq_k fun K24 hK24 => ?_
  refine wp_region_lit ?_
  refine wl (eL 56 2 0 (v := .agg #[.int .i64 1, .int .i64 1]) hF hM (by kernel_rfl) rfl rfl (by kernel_rfl) (by kernel_rfl) fun a w hF hM => ?_)
  refine sB 1 [(57, .agg #[.int .i64 0, .int .i64 0])] hF (by kernel_rfl) fun a hF => ?_
  refine wl (eN 58 11 (t := 39) (fun b => .slice (some ⟨b, 0, none⟩) 2 2) #[.int .i64 1, .int .i64 1, .int .i64 0, .int .i64 0] hF hM (by kernel_rfl) (fun _ => by kernel_rfl) fun bb11 a w hF hM => ?_)
  refine wl (eL 59 9 0 (v := .agg #[.int .i64 1, .int .i64 (-1)]) hF hM (by kernel_rfl) rfl rfl (by kernel_rfl) (by kernel_rfl) fun a w hF hM => ?_)
  refine wl (eM 60 (v := .tuple #[.int .i64 0, .int .i64 130]) hF hM (by kernel_rfl) (Yld.to (yld_call (f := 20) (args := #[.slice (some ⟨bb11, 0, none⟩) 2 2, .agg #[.int .i64 1, .int .i64 (-1)]]) hF (by kernel_rfl) (fun _ => by kernel_rfl) (fun w hM => delay_w 1 (-1) (some ⟨bb11, 0, none⟩) [(1, 1), (0, 0)] _ w (hM.roRow (k := 11) rfl))) (by kernel_rfl)) fun a w hF hM => ?_)
  refine sB 5 [(55, .tuple #[.int .i64 0, .int .i64 130]), (61, .int .i64 0), (62, .int .i64 130), (7, .int .i64 0), (8, .int .i64 130)] hF (by kernel_rfl) fun a hF => ?_
  refine wpList_nil ?_
  refine hK24 _ _ ?_
  refine wp_seq_k fun K25 hK25 => ?_
  refine wp_region_lit ?_
  refine wl (eL 64 2 0 (v := .agg #[.int .i64 1, .int .i64 1]) hF hM (by kernel_rfl) rfl rfl (by kernel_rfl) (by kernel_rfl) fun a w hF hM => ?_)
  refine wl (eL 65 9 0 (v := .agg #[.int .i64 1, .int .i64 (-1)]) hF hM (by kernel_rfl) rfl rfl (by kernel_rfl) (by kernel_rfl) fun a w hF hM => ?_)
  refine wl (eM 66 (v := .tuple #[.int .i64 0, .int .i64 140]) hF hM (by kernel_rfl) (Yld.to (yld_call (f := 22) (args := #[.agg #[.int .i64 1, .int .i64 1], .agg #[.int .i64 1, .int .i64 (-1)]]) hF (by kernel_rfl) (fun _ => by kernel_rfl) (fun w hM => backlog_w 1 1 1 (-1) w)) (by kernel_rfl)) fun a w hF hM => ?_)
  refine sB 5 [(63, .tuple #[.int .i64 0, .int .i64 140]), (67, .int .i64 0), (68, .int .i64 140), (9, .int .i64 0), (10, .int .i64 140)] hF (by kernel_rfl) fun a hF => ?_
  refine wpList_nil ?_
  refine hK25 _ _ ?_
  refine wp_seq_k fun K26 hK26 => ?_
  refine wp_region_lit ?_
  refine wl (eL 70 2 0 (v := .agg #[.int .i64 1, .int .i64 1]) hF hM (by kernel_rfl) rfl rfl (by kernel_rfl) (by kernel_rfl) fun a w hF hM => ?_)
  refine wl (eL 71 9 0 (v := .agg #[.int .i64 1, .int .i64 (-1)]) hF hM (by kernel_rfl) rfl rfl (by kernel_rfl) (by kernel_rfl) fun a w hF hM => ?_)
  refine wl (eM 72 (v := .tuple #[.agg #[.int .i64 0, .int .i64 0], .int .i64 140]) hF hM (by kernel_rfl) (Yld.to (yld_call (f := 24) (args := #[.agg #[.int .i64 1, .int .i64 1], .agg #[.int .i64 1, .int .i64 (-1)]]) hF (by kernel_rfl) (fun _ => by kernel_rfl) (fun w hM => output_w 1 1 1 (-1) w)) (by kernel_rfl)) fun a w hF hM => ?_)
  refine sB 3 [(69, .tuple #[.agg #[.int .i64 0, .int .i64 0], .int .i64 140]), (73, .agg #[.int .i64 0, .int .i64 0]), (74, .int .i64 140)] hF (by kernel_rfl) fun a hF => ?_
  refine wl (eN 11 12 (t := 39) (fun b => .pointer (some ⟨b, 0, none⟩)) #[.int .i64 0, .int .i64 0] hF hM (by kernel_rfl) (fun _ => by kernel_rfl) fun bb12 a w hF hM => ?_)
  refine wl (sStore (i := 12) (off := 0) (cs' := #[.int .i64 0, .int .i64 0]) hF hM (by kernel_rfl) rfl rfl (by kernel_rfl) (by kernel_rfl) rfl (by kernel_rfl) fun w hM => ?_)
  refine sB 1 [(12, .int .i64 140)] hF (by kernel_rfl) fun a hF => ?_
  refine wpList_nil ?_
  refine hK26 _ _ ?_
  refine wp_seq_k fun K27 hK27 => ?_
  refine wp_region_lit ?_
  refine wl (eL 76 1 0 (v := .agg #[.int .i64 1, .int .i64 0]) hF hM (by kernel_rfl) rfl rfl (by kernel_rfl) (by kernel_rfl) fun a w hF hM => ?_)
  refine wl (eL 77 9 0 (v := .agg #[.int .i64 1, .int .i64 (-1)]) hF hM (by kernel_rfl) rfl rfl (by kernel_rfl) (by kernel_rfl) fun a w hF hM => ?_)
  refine wl (eM 78 (v := .tuple #[.agg #[.int .i64 0, .int .i64 0], .int .i64 140]) hF hM (by kernel_rfl) (Yld.to (yld_call (f := 14) (args := #[.agg #[.int .i64 1, .int .i64 0], .agg #[.int .i64 1, .int .i64 (-1)]]) hF (by kernel_rfl) (fun _ => by kernel_rfl) (fun w hM => join_w 1 0 1 (-1) w)) (by kernel_rfl)) fun a w hF hM => ?_)
  refine sB 3 [(75, .tuple #[.agg #[.int .i64 0, .int .i64 0], .int .i64 140]), (79, .agg #[.int .i64 0, .int .i64 0]), (80, .int .i64 140)] hF (by kernel_rfl) fun a hF => ?_
  refine wl (eN 13 13 (t := 23) (fun b => .pointer (some ⟨b, 0, none⟩)) #[.int .i64 0, .int .i64 0] hF hM (by kernel_rfl) (fun _ => by kernel_rfl) fun bb13 a w hF hM => ?_)
  refine wl (sStore (i := 13) (off := 0) (cs' := #[.int .i64 0, .int .i64 0]) hF hM (by kernel_rfl) rfl rfl (by kernel_rfl) (by kernel_rfl) rfl (by kernel_rfl) fun w hM => ?_)
  refine sB 1 [(14, .int .i64 140)] hF (by kernel_rfl) fun a hF => ?_
  refine wpList_nil ?_
  refine hK27 _ _ ?_
  refine wp_seq_k fun K28 hK28 => ?_
  refine wp_region_lit ?_
  refine wl (eL 82 9 0 (v := .agg #[.int .i64 1, .int .i64 (-1)]) hF hM (by kernel_rfl) rfl rfl (by kernel_rfl) (by kernel_rfl) fun a w hF hM => ?_)
  refine wl (eM 83 (v := .tuple #[.slice none 0 0, .int .i64 140]) hF hM (by kernel_rfl) (yld_call (f := 27) (args := #[.slice none 0 0, .agg #[.int .i64 1, .int .i64 (-1)]]) hF (by kernel_rfl) (fun _ => by kernel_rfl) (fun w hM => drain_bad (by decide : drE 1 (-1) ([] : List (Int × Int)) = 140) (by decide) (drain_err 1 (-1) none ([] : List (Int × Int)) _ w Ro.nil (by decide)))) fun a w hF hM => ?_)
  refine sB 5 [(81, .tuple #[.slice none 0 0, .int .i64 140]), (84, .slice none 0 0), (85, .int .i64 140), (15, .slice none 0 0), (16, .int .i64 140)] hF (by kernel_rfl) fun a hF => ?_
  refine wpList_nil ?_
  refine hK28 _ _ ?_
  refine wp_seq_k fun K29 hK29 => ?_
  refine wp_region_lit ?_
  refine sB 1 [(87, .agg #[.int .i64 (-1), .int .i64 1])] hF (by kernel_rfl) fun a hF => ?_
  refine wl (eN 88 14 (t := 64) (fun b => .slice (some ⟨b, 0, none⟩) 1 1) #[.int .i64 (-1), .int .i64 1] hF hM (by kernel_rfl) (fun _ => by kernel_rfl) fun bb14 a w hF hM => ?_)
  refine wl (eL 89 9 0 (v := .agg #[.int .i64 1, .int .i64 (-1)]) hF hM (by kernel_rfl) rfl rfl (by kernel_rfl) (by kernel_rfl) fun a w hF hM => ?_)
  refine wl (eM 90 (v := .tuple #[.slice none 0 0, .int .i64 131]) hF hM (by kernel_rfl) (yld_call (f := 27) (args := #[.slice (some ⟨bb14, 0, none⟩) 1 1, .agg #[.int .i64 1, .int .i64 (-1)]]) hF (by kernel_rfl) (fun _ => by kernel_rfl) (fun w hM => drain_bad (by decide : drE 1 (-1) [(-1, 1)] = 131) (by decide) (drain_err 1 (-1) (some ⟨bb14, 0, none⟩) [(-1, 1)] _ w (hM.roRow (k := 14) rfl) (by decide)))) fun a w hF hM => ?_)
  refine sB 5 [(86, .tuple #[.slice none 0 0, .int .i64 131]), (91, .slice none 0 0), (92, .int .i64 131), (17, .slice none 0 0), (18, .int .i64 131)] hF (by kernel_rfl) fun a hF => ?_
  refine wpList_nil ?_
  refine hK29 _ _ ?_
  refine wp_seq_k fun K30 hK30 => ?_
  refine wp_region_lit ?_
  refine wl (eL 93 9 0 (v := .agg #[.int .i64 1, .int .i64 (-1)]) hF hM (by kernel_rfl) rfl rfl (by kernel_rfl) (by kernel_rfl) fun a w hF hM => ?_)
  refine wl (eM 94 (v := .int .i64 140) hF hM (by kernel_rfl) (Yld.to (yld_call (f := 16) (args := #[.agg #[.int .i64 1, .int .i64 (-1)]]) hF (by kernel_rfl) (fun _ => by kernel_rfl) (fun w hM => svCheck_w 1 (-1) w)) (by kernel_rfl)) fun a w hF hM => ?_)
  refine wl (eP 95 (v0 := .bool (!decide (140 = 140))) (v := .bool false) hF (by kernel_rfl) (fun _ => by kernel_rfl) (nT (by omega)) fun a hF => ?_)
  refine sB 2 [(96, .bool false), (97, .int .i64 140)] hF (by kernel_rfl) fun a hF => ?_
  refine wl (eP 98 (v0 := .bool (!decide (140 = 140))) (v := .bool false) hF (by kernel_rfl) (fun _ => by kernel_rfl) (nT (by omega)) fun a hF => ?_)
  refine sB 3 [(99, .bool false), (100, .bool false), (101, .int .i64 130)] hF (by kernel_rfl) fun a hF => ?_
  refine wl (eP 102 (v0 := .bool (!decide (130 = 130))) (v := .bool false) hF (by kernel_rfl) (fun _ => by kernel_rfl) (nT (by omega)) fun a hF => ?_)
  refine sB 3 [(103, .bool false), (104, .bool false), (105, .int .i64 140)] hF (by kernel_rfl) fun a hF => ?_
  refine wl (eP 106 (v0 := .bool (!decide (140 = 140))) (v := .bool false) hF (by kernel_rfl) (fun _ => by kernel_rfl) (nT (by omega)) fun a hF => ?_)
  refine sB 3 [(107, .bool false), (108, .bool false), (109, .int .i64 140)] hF (by kernel_rfl) fun a hF => ?_
  refine wl (eP 110 (v0 := .bool (!decide (140 = 140))) (v := .bool false) hF (by kernel_rfl) (fun _ => by kernel_rfl) (nT (by omega)) fun a hF => ?_)
  refine sB 3 [(111, .bool false), (112, .bool false), (113, .int .i64 140)] hF (by kernel_rfl) fun a hF => ?_
  refine wl (eP 114 (v0 := .bool (!decide (140 = 140))) (v := .bool false) hF (by kernel_rfl) (fun _ => by kernel_rfl) (nT (by omega)) fun a hF => ?_)
  refine sB 3 [(115, .bool false), (116, .bool false), (117, .int .i64 140)] hF (by kernel_rfl) fun a hF => ?_
  refine wl (eP 118 (v0 := .bool (!decide (140 = 140))) (v := .bool false) hF (by kernel_rfl) (fun _ => by kernel_rfl) (nT (by omega)) fun a hF => ?_)
  refine sB 3 [(119, .bool false), (120, .bool false), (121, .int .i64 131)] hF (by kernel_rfl) fun a hF => ?_
  refine wl (eP 122 (v0 := .bool (!decide (131 = 131))) (v := .bool false) hF (by kernel_rfl) (fun _ => by kernel_rfl) (nT (by omega)) fun a hF => ?_)
  refine sB 1 [(123, .bool false)] hF (by kernel_rfl) fun a hF => ?_
  refine wpList_nil ?_
  refine hK30 _ _ ?_
  refine cF hF (by kernel_rfl) (by kernel_rfl) ?_
  refine wp_skip ?_
  refine hK21 _ _ ?_
  refine wp_region_lit ?_
  refine wl (eP 124 (v0 := .int .i64 (IntKind.i64.wrap (1 + 1))) (v := .int .i64 2) hF (by kernel_rfl) (fun _ => by kernel_rfl) (vi (by decide)) fun a hF => ?_)
  refine sB 1 [(45, .int .i64 2)] hF (by kernel_rfl) fun a hF => ?_
  refine wpList_nil ?_
  refine hK18 _ _ ?_
  refine rounds_k fun K31 hK31 => ?_
  refine wp_seq_k fun K32 hK32 => ?_
  refine wp_region_lit ?_
  refine wl (eP 46 (v0 := .bool (decide (2 < 5))) (v := .bool true) hF (by kernel_rfl) (fun _ => by kernel_rfl) (bT (by omega)) fun a hF => ?_)
  refine wpList_nil ?_
  refine hK32 _ _ ?_
  refine wp_seq_k fun K33 hK33 => ?_
  refine cT hF (by kernel_rfl) (by kernel_rfl) ?_
  refine wp_skip ?_
  refine hK33 _ _ ?_
  refine wp_seq_k fun K34 hK34 => ?_
  refine wp_block ?_
  refine wp_seq_k fun K35 hK35 => ?_
  refine wp_region_lit ?_
  refine sB 1 [(47, .agg #[.int .i64 2097153, .int .i64 0])] hF (by kernel_rfl) fun a hF => ?_
  refine wl (eN 4 15 (t := 23) (fun b => .pointer (some ⟨b, 0, none⟩)) #[.int .i64 0, .int .i64 0] hF hM (by kernel_rfl) (fun _ => by kernel_rfl) fun bb15 a w hF hM => ?_)
  refine wl (sStore (i := 15) (off := 0) (cs' := #[.int .i64 2097153, .int .i64 0]) hF hM (by kernel_rfl) rfl rfl (by kernel_rfl) (by kernel_rfl) rfl (by kernel_rfl) fun w hM => ?_)
  refine wpList_nil ?_
  refine hK35 _ _ ?_
  refine wp_seq_k fun K36 hK36 => ?_
  refine wp_region_lit ?_
  refine wl (eL 49 2 0 (v := .agg #[.int .i64 1, .int .i64 1]) hF hM (by kernel_rfl) rfl rfl (by kernel_rfl) (by kernel_rfl) fun a w hF hM => ?_)
  refine wl (eN 50 16 (t := 39) (fun b => .slice (some ⟨b, 0, none⟩) 1 1) #[.int .i64 1, .int .i64 1] hF hM (by kernel_rfl) (fun _ => by kernel_rfl) fun bb16 a w hF hM => ?_)
  refine wl (eL 51 15 0 (v := .agg #[.int .i64 2097153, .int .i64 0]) hF hM (by kernel_rfl) rfl rfl (by kernel_rfl) (by kernel_rfl) fun a w hF hM => ?_)
  refine wl (eM 52 (v := .tuple #[.int .i64 0, .int .i64 140]) hF hM (by kernel_rfl) (Yld.to (yld_call (f := 20) (args := #[.slice (some ⟨bb16, 0, none⟩) 1 1, .agg #[.int .i64 2097153, .int .i64 0]]) hF (by kernel_rfl) (fun _ => by kernel_rfl) (fun w hM => delay_w 2097153 0 (some ⟨bb16, 0, none⟩) [(1, 1)] _ w (hM.roRow (k := 16) rfl))) (by kernel_rfl)) fun a w hF hM => ?_)
  refine sB 5 [(48, .tuple #[.int .i64 0, .int .i64 140]), (53, .int .i64 0), (54, .int .i64 140), (5, .int .i64 0), (6, .int .i64 140)] hF (by kernel_rfl) fun a hF => ?_
  refine wpList_nil ?_
  refine hK36 _ _ ?_
  refine wp_seq_k fun K37 hK37 => ?_
  refine wp_region_lit ?_
  refine wl (eL 56 2 0 (v := .agg #[.int .i64 1, .int .i64 1]) hF hM (by kernel_rfl) rfl rfl (by kernel_rfl) (by kernel_rfl) fun a w hF hM => ?_)
  refine sB 1 [(57, .agg #[.int .i64 0, .int .i64 0])] hF (by kernel_rfl) fun a hF => ?_
  refine wl (eN 58 17 (t := 39) (fun b => .slice (some ⟨b, 0, none⟩) 2 2) #[.int .i64 1, .int .i64 1, .int .i64 0, .int .i64 0] hF hM (by kernel_rfl) (fun _ => by kernel_rfl) fun bb17 a w hF hM => ?_)
  refine wl (eL 59 15 0 (v := .agg #[.int .i64 2097153, .int .i64 0]) hF hM (by kernel_rfl) rfl rfl (by kernel_rfl) (by kernel_rfl) fun a w hF hM => ?_)
  refine wl (eM 60 (v := .tuple #[.int .i64 0, .int .i64 130]) hF hM (by kernel_rfl) (Yld.to (yld_call (f := 20) (args := #[.slice (some ⟨bb17, 0, none⟩) 2 2, .agg #[.int .i64 2097153, .int .i64 0]]) hF (by kernel_rfl) (fun _ => by kernel_rfl) (fun w hM => delay_w 2097153 0 (some ⟨bb17, 0, none⟩) [(1, 1), (0, 0)] _ w (hM.roRow (k := 17) rfl))) (by kernel_rfl)) fun a w hF hM => ?_)
  refine sB 5 [(55, .tuple #[.int .i64 0, .int .i64 130]), (61, .int .i64 0), (62, .int .i64 130), (7, .int .i64 0), (8, .int .i64 130)] hF (by kernel_rfl) fun a hF => ?_
  refine wpList_nil ?_
  refine hK37 _ _ ?_
  refine wp_seq_k fun K38 hK38 => ?_
  refine wp_region_lit ?_
  refine wl (eL 64 2 0 (v := .agg #[.int .i64 1, .int .i64 1]) hF hM (by kernel_rfl) rfl rfl (by kernel_rfl) (by kernel_rfl) fun a w hF hM => ?_)
  refine wl (eL 65 15 0 (v := .agg #[.int .i64 2097153, .int .i64 0]) hF hM (by kernel_rfl) rfl rfl (by kernel_rfl) (by kernel_rfl) fun a w hF hM => ?_)
  refine wl (eM 66 (v := .tuple #[.int .i64 0, .int .i64 140]) hF hM (by kernel_rfl) (Yld.to (yld_call (f := 22) (args := #[.agg #[.int .i64 1, .int .i64 1], .agg #[.int .i64 2097153, .int .i64 0]]) hF (by kernel_rfl) (fun _ => by kernel_rfl) (fun w hM => backlog_w 1 1 2097153 0 w)) (by kernel_rfl)) fun a w hF hM => ?_)
  refine sB 5 [(63, .tuple #[.int .i64 0, .int .i64 140]), (67, .int .i64 0), (68, .int .i64 140), (9, .int .i64 0), (10, .int .i64 140)] hF (by kernel_rfl) fun a hF => ?_
  refine wpList_nil ?_
  refine hK38 _ _ ?_
  refine wp_seq_k fun K39 hK39 => ?_
  refine wp_region_lit ?_
  refine wl (eL 70 2 0 (v := .agg #[.int .i64 1, .int .i64 1]) hF hM (by kernel_rfl) rfl rfl (by kernel_rfl) (by kernel_rfl) fun a w hF hM => ?_)
  refine wl (eL 71 15 0 (v := .agg #[.int .i64 2097153, .int .i64 0]) hF hM (by kernel_rfl) rfl rfl (by kernel_rfl) (by kernel_rfl) fun a w hF hM => ?_)
  refine wl (eM 72 (v := .tuple #[.agg #[.int .i64 0, .int .i64 0], .int .i64 140]) hF hM (by kernel_rfl) (Yld.to (yld_call (f := 24) (args := #[.agg #[.int .i64 1, .int .i64 1], .agg #[.int .i64 2097153, .int .i64 0]]) hF (by kernel_rfl) (fun _ => by kernel_rfl) (fun w hM => output_w 1 1 2097153 0 w)) (by kernel_rfl)) fun a w hF hM => ?_)
  refine sB 3 [(69, .tuple #[.agg #[.int .i64 0, .int .i64 0], .int .i64 140]), (73, .agg #[.int .i64 0, .int .i64 0]), (74, .int .i64 140)] hF (by kernel_rfl) fun a hF => ?_
  refine wl (eN 11 18 (t := 39) (fun b => .pointer (some ⟨b, 0, none⟩)) #[.int .i64 0, .int .i64 0] hF hM (by kernel_rfl) (fun _ => by kernel_rfl) fun bb18 a w hF hM => ?_)
  refine wl (sStore (i := 18) (off := 0) (cs' := #[.int .i64 0, .int .i64 0]) hF hM (by kernel_rfl) rfl rfl (by kernel_rfl) (by kernel_rfl) rfl (by kernel_rfl) fun w hM => ?_)
  refine sB 1 [(12, .int .i64 140)] hF (by kernel_rfl) fun a hF => ?_
  refine wpList_nil ?_
  refine hK39 _ _ ?_
  refine wp_seq_k fun K40 hK40 => ?_
  refine wp_region_lit ?_
  refine wl (eL 76 1 0 (v := .agg #[.int .i64 1, .int .i64 0]) hF hM (by kernel_rfl) rfl rfl (by kernel_rfl) (by kernel_rfl) fun a w hF hM => ?_)
  refine wl (eL 77 15 0 (v := .agg #[.int .i64 2097153, .int .i64 0]) hF hM (by kernel_rfl) rfl rfl (by kernel_rfl) (by kernel_rfl) fun a w hF hM => ?_)
  refine wl (eM 78 (v := .tuple #[.agg #[.int .i64 0, .int .i64 0], .int .i64 140]) hF hM (by kernel_rfl) (Yld.to (yld_call (f := 14) (args := #[.agg #[.int .i64 1, .int .i64 0], .agg #[.int .i64 2097153, .int .i64 0]]) hF (by kernel_rfl) (fun _ => by kernel_rfl) (fun w hM => join_w 1 0 2097153 0 w)) (by kernel_rfl)) fun a w hF hM => ?_)
  refine sB 3 [(75, .tuple #[.agg #[.int .i64 0, .int .i64 0], .int .i64 140]), (79, .agg #[.int .i64 0, .int .i64 0]), (80, .int .i64 140)] hF (by kernel_rfl) fun a hF => ?_
  refine wl (eN 13 19 (t := 23) (fun b => .pointer (some ⟨b, 0, none⟩)) #[.int .i64 0, .int .i64 0] hF hM (by kernel_rfl) (fun _ => by kernel_rfl) fun bb19 a w hF hM => ?_)
  refine wl (sStore (i := 19) (off := 0) (cs' := #[.int .i64 0, .int .i64 0]) hF hM (by kernel_rfl) rfl rfl (by kernel_rfl) (by kernel_rfl) rfl (by kernel_rfl) fun w hM => ?_)
  refine sB 1 [(14, .int .i64 140)] hF (by kernel_rfl) fun a hF => ?_
  refine wpList_nil ?_
  refine hK40 _ _ ?_
  refine wp_seq_k fun K41 hK41 => ?_
  refine wp_region_lit ?_
  refine wl (eL 82 15 0 (v := .agg #[.int .i64 2097153, .int .i64 0]) hF hM (by kernel_rfl) rfl rfl (by kernel_rfl) (by kernel_rfl) fun a w hF hM => ?_)
  refine wl (eM 83 (v := .tuple #[.slice none 0 0, .int .i64 140]) hF hM (by kernel_rfl) (yld_call (f := 27) (args := #[.slice none 0 0, .agg #[.int .i64 2097153, .int .i64 0]]) hF (by kernel_rfl) (fun _ => by kernel_rfl) (fun w hM => drain_bad (by decide : drE 2097153 0 ([] : List (Int × Int)) = 140) (by decide) (drain_err 2097153 0 none ([] : List (Int × Int)) _ w Ro.nil (by decide)))) fun a w hF hM => ?_)
  refine sB 5 [(81, .tuple #[.slice none 0 0, .int .i64 140]), (84, .slice none 0 0), (85, .int .i64 140), (15, .slice none 0 0), (16, .int .i64 140)] hF (by kernel_rfl) fun a hF => ?_
  refine wpList_nil ?_
  refine hK41 _ _ ?_
  refine wp_seq_k fun K42 hK42 => ?_
  refine wp_region_lit ?_
  refine sB 1 [(87, .agg #[.int .i64 (-1), .int .i64 1])] hF (by kernel_rfl) fun a hF => ?_
  refine wl (eN 88 20 (t := 64) (fun b => .slice (some ⟨b, 0, none⟩) 1 1) #[.int .i64 (-1), .int .i64 1] hF hM (by kernel_rfl) (fun _ => by kernel_rfl) fun bb20 a w hF hM => ?_)
  refine wl (eL 89 15 0 (v := .agg #[.int .i64 2097153, .int .i64 0]) hF hM (by kernel_rfl) rfl rfl (by kernel_rfl) (by kernel_rfl) fun a w hF hM => ?_)
  refine wl (eM 90 (v := .tuple #[.slice none 0 0, .int .i64 131]) hF hM (by kernel_rfl) (yld_call (f := 27) (args := #[.slice (some ⟨bb20, 0, none⟩) 1 1, .agg #[.int .i64 2097153, .int .i64 0]]) hF (by kernel_rfl) (fun _ => by kernel_rfl) (fun w hM => drain_bad (by decide : drE 2097153 0 [(-1, 1)] = 131) (by decide) (drain_err 2097153 0 (some ⟨bb20, 0, none⟩) [(-1, 1)] _ w (hM.roRow (k := 20) rfl) (by decide)))) fun a w hF hM => ?_)
  refine sB 5 [(86, .tuple #[.slice none 0 0, .int .i64 131]), (91, .slice none 0 0), (92, .int .i64 131), (17, .slice none 0 0), (18, .int .i64 131)] hF (by kernel_rfl) fun a hF => ?_
  refine wpList_nil ?_
  refine hK42 _ _ ?_
  refine wp_seq_k fun K43 hK43 => ?_
  refine wp_region_lit ?_
  refine wl (eL 93 15 0 (v := .agg #[.int .i64 2097153, .int .i64 0]) hF hM (by kernel_rfl) rfl rfl (by kernel_rfl) (by kernel_rfl) fun a w hF hM => ?_)
  refine wl (eM 94 (v := .int .i64 140) hF hM (by kernel_rfl) (Yld.to (yld_call (f := 16) (args := #[.agg #[.int .i64 2097153, .int .i64 0]]) hF (by kernel_rfl) (fun _ => by kernel_rfl) (fun w hM => svCheck_w 2097153 0 w)) (by kernel_rfl)) fun a w hF hM => ?_)
  refine wl (eP 95 (v0 := .bool (!decide (140 = 140))) (v := .bool false) hF (by kernel_rfl) (fun _ => by kernel_rfl) (nT (by omega)) fun a hF => ?_)
  refine sB 2 [(96, .bool false), (97, .int .i64 140)] hF (by kernel_rfl) fun a hF => ?_
  refine wl (eP 98 (v0 := .bool (!decide (140 = 140))) (v := .bool false) hF (by kernel_rfl) (fun _ => by kernel_rfl) (nT (by omega)) fun a hF => ?_)
  refine sB 3 [(99, .bool false), (100, .bool false), (101, .int .i64 130)] hF (by kernel_rfl) fun a hF => ?_
  refine wl (eP 102 (v0 := .bool (!decide (130 = 130))) (v := .bool false) hF (by kernel_rfl) (fun _ => by kernel_rfl) (nT (by omega)) fun a hF => ?_)
  refine sB 3 [(103, .bool false), (104, .bool false), (105, .int .i64 140)] hF (by kernel_rfl) fun a hF => ?_
  refine wl (eP 106 (v0 := .bool (!decide (140 = 140))) (v := .bool false) hF (by kernel_rfl) (fun _ => by kernel_rfl) (nT (by omega)) fun a hF => ?_)
  refine sB 3 [(107, .bool false), (108, .bool false), (109, .int .i64 140)] hF (by kernel_rfl) fun a hF => ?_
  refine wl (eP 110 (v0 := .bool (!decide (140 = 140))) (v := .bool false) hF (by kernel_rfl) (fun _ => by kernel_rfl) (nT (by omega)) fun a hF => ?_)
  refine sB 3 [(111, .bool false), (112, .bool false), (113, .int .i64 140)] hF (by kernel_rfl) fun a hF => ?_
  refine wl (eP 114 (v0 := .bool (!decide (140 = 140))) (v := .bool false) hF (by kernel_rfl) (fun _ => by kernel_rfl) (nT (by omega)) fun a hF => ?_)
  refine sB 3 [(115, .bool false), (116, .bool false), (117, .int .i64 140)] hF (by kernel_rfl) fun a hF => ?_
  refine wl (eP 118 (v0 := .bool (!decide (140 = 140))) (v := .bool false) hF (by kernel_rfl) (fun _ => by kernel_rfl) (nT (by omega)) fun a hF => ?_)
  refine sB 3 [(119, .bool false), (120, .bool false), (121, .int .i64 131)] hF (by kernel_rfl) fun a hF => ?_
  refine wl (eP 122 (v0 := .bool (!decide (131 = 131))) (v := .bool false) hF (by kernel_rfl) (fun _ => by kernel_rfl) (nT (by omega)) fun a hF => ?_)
  refine sB 1 [(123, .bool false)] hF (by kernel_rfl) fun a hF => ?_
  refine wpList_nil ?_
  refine hK43 _ _ ?_
  refine cF hF (by kernel_rfl) (by kernel_rfl) ?_
  refine wp_skip ?_
  refine hK34 _ _ ?_
  refine wp_region_lit ?_
  refine wl (eP 124 (v0 := .int .i64 (IntKind.i64.wrap (2 + 1))) (v := .int .i64 3) hF (by kernel_rfl) (fun _ => by kernel_rfl) (vi (by decide)) fun a hF => ?_)
  refine sB 1 [(45, .int .i64 3)] hF (by kernel_rfl) fun a hF => ?_
  refine wpList_nil ?_
  refine hK31 _ _ ?_
  refine rounds_k fun K44 hK44 => ?_
  refine wp_seq_k fun K45 hK45 => ?_
  refine wp_region_lit ?_
  refine wl (eP 46 (v0 := .bool (decide (3 < 5))) (v := .bool true) hF (by kernel_rfl) (fun _ => by kernel_rfl) (bT (by omega)) fun a hF => ?_)
  refine wpList_nil ?_
  refine hK45 _ _ ?_
  refine wp_seq_k fun K46 hK46 => ?_
  refine cT hF (by kernel_rfl) (by kernel_rfl) ?_
  refine wp_skip ?_
  refine hK46 _ _ ?_
  refine wp_seq_k fun K47 hK47 => ?_
  refine wp_block ?_
  refine wp_seq_k fun K48 hK48 => ?_
  refine wp_region_lit ?_
  refine sB 1 [(47, .agg #[.int .i64 1, .int .i64 268435457])] hF (by kernel_rfl) fun a hF => ?_
  refine wl (eN 4 21 (t := 23) (fun b => .pointer (some ⟨b, 0, none⟩)) #[.int .i64 0, .int .i64 0] hF hM (by kernel_rfl) (fun _ => by kernel_rfl) fun bb21 a w hF hM => ?_)
  refine wl (sStore (i := 21) (off := 0) (cs' := #[.int .i64 1, .int .i64 268435457]) hF hM (by kernel_rfl) rfl rfl (by kernel_rfl) (by kernel_rfl) rfl (by kernel_rfl) fun w hM => ?_)
  refine wpList_nil ?_
  refine hK48 _ _ ?_
  refine wp_seq_k fun K49 hK49 => ?_
  refine wp_region_lit ?_
  refine wl (eL 49 2 0 (v := .agg #[.int .i64 1, .int .i64 1]) hF hM (by kernel_rfl) rfl rfl (by kernel_rfl) (by kernel_rfl) fun a w hF hM => ?_)
  refine wl (eN 50 22 (t := 39) (fun b => .slice (some ⟨b, 0, none⟩) 1 1) #[.int .i64 1, .int .i64 1] hF hM (by kernel_rfl) (fun _ => by kernel_rfl) fun bb22 a w hF hM => ?_)
  refine wl (eL 51 21 0 (v := .agg #[.int .i64 1, .int .i64 268435457]) hF hM (by kernel_rfl) rfl rfl (by kernel_rfl) (by kernel_rfl) fun a w hF hM => ?_)
  refine wl (eM 52 (v := .tuple #[.int .i64 0, .int .i64 140]) hF hM (by kernel_rfl) (Yld.to (yld_call (f := 20) (args := #[.slice (some ⟨bb22, 0, none⟩) 1 1, .agg #[.int .i64 1, .int .i64 268435457]]) hF (by kernel_rfl) (fun _ => by kernel_rfl) (fun w hM => delay_w 1 268435457 (some ⟨bb22, 0, none⟩) [(1, 1)] _ w (hM.roRow (k := 22) rfl))) (by kernel_rfl)) fun a w hF hM => ?_)
  refine sB 5 [(48, .tuple #[.int .i64 0, .int .i64 140]), (53, .int .i64 0), (54, .int .i64 140), (5, .int .i64 0), (6, .int .i64 140)] hF (by kernel_rfl) fun a hF => ?_
  refine wpList_nil ?_
  refine hK49 _ _ ?_
  refine wp_seq_k fun K50 hK50 => ?_
  refine wp_region_lit ?_
  refine wl (eL 56 2 0 (v := .agg #[.int .i64 1, .int .i64 1]) hF hM (by kernel_rfl) rfl rfl (by kernel_rfl) (by kernel_rfl) fun a w hF hM => ?_)
  refine sB 1 [(57, .agg #[.int .i64 0, .int .i64 0])] hF (by kernel_rfl) fun a hF => ?_
  refine wl (eN 58 23 (t := 39) (fun b => .slice (some ⟨b, 0, none⟩) 2 2) #[.int .i64 1, .int .i64 1, .int .i64 0, .int .i64 0] hF hM (by kernel_rfl) (fun _ => by kernel_rfl) fun bb23 a w hF hM => ?_)
  refine wl (eL 59 21 0 (v := .agg #[.int .i64 1, .int .i64 268435457]) hF hM (by kernel_rfl) rfl rfl (by kernel_rfl) (by kernel_rfl) fun a w hF hM => ?_)
  refine wl (eM 60 (v := .tuple #[.int .i64 0, .int .i64 130]) hF hM (by kernel_rfl) (Yld.to (yld_call (f := 20) (args := #[.slice (some ⟨bb23, 0, none⟩) 2 2, .agg #[.int .i64 1, .int .i64 268435457]]) hF (by kernel_rfl) (fun _ => by kernel_rfl) (fun w hM => delay_w 1 268435457 (some ⟨bb23, 0, none⟩) [(1, 1), (0, 0)] _ w (hM.roRow (k := 23) rfl))) (by kernel_rfl)) fun a w hF hM => ?_)
  refine sB 5 [(55, .tuple #[.int .i64 0, .int .i64 130]), (61, .int .i64 0), (62, .int .i64 130), (7, .int .i64 0), (8, .int .i64 130)] hF (by kernel_rfl) fun a hF => ?_
  refine wpList_nil ?_
  refine hK50 _ _ ?_
  refine wp_seq_k fun K51 hK51 => ?_
  refine wp_region_lit ?_
  refine wl (eL 64 2 0 (v := .agg #[.int .i64 1, .int .i64 1]) hF hM (by kernel_rfl) rfl rfl (by kernel_rfl) (by kernel_rfl) fun a w hF hM => ?_)
  refine wl (eL 65 21 0 (v := .agg #[.int .i64 1, .int .i64 268435457]) hF hM (by kernel_rfl) rfl rfl (by kernel_rfl) (by kernel_rfl) fun a w hF hM => ?_)
  refine wl (eM 66 (v := .tuple #[.int .i64 0, .int .i64 140]) hF hM (by kernel_rfl) (Yld.to (yld_call (f := 22) (args := #[.agg #[.int .i64 1, .int .i64 1], .agg #[.int .i64 1, .int .i64 268435457]]) hF (by kernel_rfl) (fun _ => by kernel_rfl) (fun w hM => backlog_w 1 1 1 268435457 w)) (by kernel_rfl)) fun a w hF hM => ?_)
  refine sB 5 [(63, .tuple #[.int .i64 0, .int .i64 140]), (67, .int .i64 0), (68, .int .i64 140), (9, .int .i64 0), (10, .int .i64 140)] hF (by kernel_rfl) fun a hF => ?_
  refine wpList_nil ?_
  refine hK51 _ _ ?_
  refine wp_seq_k fun K52 hK52 => ?_
  refine wp_region_lit ?_
  refine wl (eL 70 2 0 (v := .agg #[.int .i64 1, .int .i64 1]) hF hM (by kernel_rfl) rfl rfl (by kernel_rfl) (by kernel_rfl) fun a w hF hM => ?_)
  refine wl (eL 71 21 0 (v := .agg #[.int .i64 1, .int .i64 268435457]) hF hM (by kernel_rfl) rfl rfl (by kernel_rfl) (by kernel_rfl) fun a w hF hM => ?_)
  refine wl (eM 72 (v := .tuple #[.agg #[.int .i64 0, .int .i64 0], .int .i64 140]) hF hM (by kernel_rfl) (Yld.to (yld_call (f := 24) (args := #[.agg #[.int .i64 1, .int .i64 1], .agg #[.int .i64 1, .int .i64 268435457]]) hF (by kernel_rfl) (fun _ => by kernel_rfl) (fun w hM => output_w 1 1 1 268435457 w)) (by kernel_rfl)) fun a w hF hM => ?_)
  refine sB 3 [(69, .tuple #[.agg #[.int .i64 0, .int .i64 0], .int .i64 140]), (73, .agg #[.int .i64 0, .int .i64 0]), (74, .int .i64 140)] hF (by kernel_rfl) fun a hF => ?_
  refine wl (eN 11 24 (t := 39) (fun b => .pointer (some ⟨b, 0, none⟩)) #[.int .i64 0, .int .i64 0] hF hM (by kernel_rfl) (fun _ => by kernel_rfl) fun bb24 a w hF hM => ?_)
  refine wl (sStore (i := 24) (off := 0) (cs' := #[.int .i64 0, .int .i64 0]) hF hM (by kernel_rfl) rfl rfl (by kernel_rfl) (by kernel_rfl) rfl (by kernel_rfl) fun w hM => ?_)
  refine sB 1 [(12, .int .i64 140)] hF (by kernel_rfl) fun a hF => ?_
  refine wpList_nil ?_
  refine hK52 _ _ ?_
  refine wp_seq_k fun K53 hK53 => ?_
  refine wp_region_lit ?_
  refine wl (eL 76 1 0 (v := .agg #[.int .i64 1, .int .i64 0]) hF hM (by kernel_rfl) rfl rfl (by kernel_rfl) (by kernel_rfl) fun a w hF hM => ?_)
  refine wl (eL 77 21 0 (v := .agg #[.int .i64 1, .int .i64 268435457]) hF hM (by kernel_rfl) rfl rfl (by kernel_rfl) (by kernel_rfl) fun a w hF hM => ?_)
  refine wl (eM 78 (v := .tuple #[.agg #[.int .i64 0, .int .i64 0], .int .i64 140]) hF hM (by kernel_rfl) (Yld.to (yld_call (f := 14) (args := #[.agg #[.int .i64 1, .int .i64 0], .agg #[.int .i64 1, .int .i64 268435457]]) hF (by kernel_rfl) (fun _ => by kernel_rfl) (fun w hM => join_w 1 0 1 268435457 w)) (by kernel_rfl)) fun a w hF hM => ?_)
  refine sB 3 [(75, .tuple #[.agg #[.int .i64 0, .int .i64 0], .int .i64 140]), (79, .agg #[.int .i64 0, .int .i64 0]), (80, .int .i64 140)] hF (by kernel_rfl) fun a hF => ?_
  refine wl (eN 13 25 (t := 23) (fun b => .pointer (some ⟨b, 0, none⟩)) #[.int .i64 0, .int .i64 0] hF hM (by kernel_rfl) (fun _ => by kernel_rfl) fun bb25 a w hF hM => ?_)
  refine wl (sStore (i := 25) (off := 0) (cs' := #[.int .i64 0, .int .i64 0]) hF hM (by kernel_rfl) rfl rfl (by kernel_rfl) (by kernel_rfl) rfl (by kernel_rfl) fun w hM => ?_)
  refine sB 1 [(14, .int .i64 140)] hF (by kernel_rfl) fun a hF => ?_
  refine wpList_nil ?_
  refine hK53 _ _ ?_
  refine wp_seq_k fun K54 hK54 => ?_
  refine wp_region_lit ?_
  refine wl (eL 82 21 0 (v := .agg #[.int .i64 1, .int .i64 268435457]) hF hM (by kernel_rfl) rfl rfl (by kernel_rfl) (by kernel_rfl) fun a w hF hM => ?_)
  refine wl (eM 83 (v := .tuple #[.slice none 0 0, .int .i64 140]) hF hM (by kernel_rfl) (yld_call (f := 27) (args := #[.slice none 0 0, .agg #[.int .i64 1, .int .i64 268435457]]) hF (by kernel_rfl) (fun _ => by kernel_rfl) (fun w hM => drain_bad (by decide : drE 1 268435457 ([] : List (Int × Int)) = 140) (by decide) (drain_err 1 268435457 none ([] : List (Int × Int)) _ w Ro.nil (by decide)))) fun a w hF hM => ?_)
  refine sB 5 [(81, .tuple #[.slice none 0 0, .int .i64 140]), (84, .slice none 0 0), (85, .int .i64 140), (15, .slice none 0 0), (16, .int .i64 140)] hF (by kernel_rfl) fun a hF => ?_
  refine wpList_nil ?_
  refine hK54 _ _ ?_
  refine wp_seq_k fun K55 hK55 => ?_
  refine wp_region_lit ?_
  refine sB 1 [(87, .agg #[.int .i64 (-1), .int .i64 1])] hF (by kernel_rfl) fun a hF => ?_
  refine wl (eN 88 26 (t := 64) (fun b => .slice (some ⟨b, 0, none⟩) 1 1) #[.int .i64 (-1), .int .i64 1] hF hM (by kernel_rfl) (fun _ => by kernel_rfl) fun bb26 a w hF hM => ?_)
  refine wl (eL 89 21 0 (v := .agg #[.int .i64 1, .int .i64 268435457]) hF hM (by kernel_rfl) rfl rfl (by kernel_rfl) (by kernel_rfl) fun a w hF hM => ?_)
  refine wl (eM 90 (v := .tuple #[.slice none 0 0, .int .i64 131]) hF hM (by kernel_rfl) (yld_call (f := 27) (args := #[.slice (some ⟨bb26, 0, none⟩) 1 1, .agg #[.int .i64 1, .int .i64 268435457]]) hF (by kernel_rfl) (fun _ => by kernel_rfl) (fun w hM => drain_bad (by decide : drE 1 268435457 [(-1, 1)] = 131) (by decide) (drain_err 1 268435457 (some ⟨bb26, 0, none⟩) [(-1, 1)] _ w (hM.roRow (k := 26) rfl) (by decide)))) fun a w hF hM => ?_)
  refine sB 5 [(86, .tuple #[.slice none 0 0, .int .i64 131]), (91, .slice none 0 0), (92, .int .i64 131), (17, .slice none 0 0), (18, .int .i64 131)] hF (by kernel_rfl) fun a hF => ?_
  refine wpList_nil ?_
  refine hK55 _ _ ?_
  refine wp_seq_k fun K56 hK56 => ?_
  refine wp_region_lit ?_
  refine wl (eL 93 21 0 (v := .agg #[.int .i64 1, .int .i64 268435457]) hF hM (by kernel_rfl) rfl rfl (by kernel_rfl) (by kernel_rfl) fun a w hF hM => ?_)
  refine wl (eM 94 (v := .int .i64 140) hF hM (by kernel_rfl) (Yld.to (yld_call (f := 16) (args := #[.agg #[.int .i64 1, .int .i64 268435457]]) hF (by kernel_rfl) (fun _ => by kernel_rfl) (fun w hM => svCheck_w 1 268435457 w)) (by kernel_rfl)) fun a w hF hM => ?_)
  refine wl (eP 95 (v0 := .bool (!decide (140 = 140))) (v := .bool false) hF (by kernel_rfl) (fun _ => by kernel_rfl) (nT (by omega)) fun a hF => ?_)
  refine sB 2 [(96, .bool false), (97, .int .i64 140)] hF (by kernel_rfl) fun a hF => ?_
  refine wl (eP 98 (v0 := .bool (!decide (140 = 140))) (v := .bool false) hF (by kernel_rfl) (fun _ => by kernel_rfl) (nT (by omega)) fun a hF => ?_)
  refine sB 3 [(99, .bool false), (100, .bool false), (101, .int .i64 130)] hF (by kernel_rfl) fun a hF => ?_
  refine wl (eP 102 (v0 := .bool (!decide (130 = 130))) (v := .bool false) hF (by kernel_rfl) (fun _ => by kernel_rfl) (nT (by omega)) fun a hF => ?_)
  refine sB 3 [(103, .bool false), (104, .bool false), (105, .int .i64 140)] hF (by kernel_rfl) fun a hF => ?_
  refine wl (eP 106 (v0 := .bool (!decide (140 = 140))) (v := .bool false) hF (by kernel_rfl) (fun _ => by kernel_rfl) (nT (by omega)) fun a hF => ?_)
  refine sB 3 [(107, .bool false), (108, .bool false), (109, .int .i64 140)] hF (by kernel_rfl) fun a hF => ?_
  refine wl (eP 110 (v0 := .bool (!decide (140 = 140))) (v := .bool false) hF (by kernel_rfl) (fun _ => by kernel_rfl) (nT (by omega)) fun a hF => ?_)
  refine sB 3 [(111, .bool false), (112, .bool false), (113, .int .i64 140)] hF (by kernel_rfl) fun a hF => ?_
  refine wl (eP 114 (v0 := .bool (!decide (140 = 140))) (v := .bool false) hF (by kernel_rfl) (fun _ => by kernel_rfl) (nT (by omega)) fun a hF => ?_)
  refine sB 3 [(115, .bool false), (116, .bool false), (117, .int .i64 140)] hF (by kernel_rfl) fun a hF => ?_
  refine wl (eP 118 (v0 := .bool (!decide (140 = 140))) (v := .bool false) hF (by kernel_rfl) (fun _ => by kernel_rfl) (nT (by omega)) fun a hF => ?_)
  refine sB 3 [(119, .bool false), (120, .bool false), (121, .int .i64 131)] hF (by kernel_rfl) fun a hF => ?_
  refine wl (eP 122 (v0 := .bool (!decide (131 = 131))) (v := .bool false) hF (by kernel_rfl) (fun _ => by kernel_rfl) (nT (by omega)) fun a hF => ?_)
  refine sB 1 [(123, .bool false)] hF (by kernel_rfl) fun a hF => ?_
  refine wpList_nil ?_
  refine hK56 _ _ ?_
  refine cF hF (by kernel_rfl) (by kernel_rfl) ?_
  refine wp_skip ?_
  refine hK47 _ _ ?_
  refine wp_region_lit ?_
  refine wl (eP 124 (v0 := .int .i64 (IntKind.i64.wrap (3 + 1))) (v := .int .i64 4) hF (by kernel_rfl) (fun _ => by kernel_rfl) (vi (by decide)) fun a hF => ?_)
  refine sB 1 [(45, .int .i64 4)] hF (by kernel_rfl) fun a hF => ?_
  refine wpList_nil ?_
  refine hK44 _ _ ?_
  refine rounds_k fun K57 hK57 => ?_
  refine wp_seq_k fun K58 hK58 => ?_
  refine wp_region_lit ?_
  refine wl (eP 46 (v0 := .bool (decide (4 < 5))) (v := .bool true) hF (by kernel_rfl) (fun _ => by kernel_rfl) (bT (by omega)) fun a hF => ?_)
  refine wpList_nil ?_
  refine hK58 _ _ ?_
  refine wp_seq_k fun K59 hK59 => ?_
  refine cT hF (by kernel_rfl) (by kernel_rfl) ?_
  refine wp_skip ?_
  refine hK59 _ _ ?_
  refine wp_seq_k fun K60 hK60 => ?_
  refine wp_block ?_
  refine wp_seq_k fun K61 hK61 => ?_
  refine wp_region_lit ?_
  refine sB 1 [(47, .agg #[.int .i64 (-1), .int .i64 5])] hF (by kernel_rfl) fun a hF => ?_
  refine wl (eN 4 27 (t := 23) (fun b => .pointer (some ⟨b, 0, none⟩)) #[.int .i64 0, .int .i64 0] hF hM (by kernel_rfl) (fun _ => by kernel_rfl) fun bb27 a w hF hM => ?_)
  refine wl (sStore (i := 27) (off := 0) (cs' := #[.int .i64 (-1), .int .i64 5]) hF hM (by kernel_rfl) rfl rfl (by kernel_rfl) (by kernel_rfl) rfl (by kernel_rfl) fun w hM => ?_)
  refine wpList_nil ?_
  refine hK61 _ _ ?_
  refine wp_seq_k fun K62 hK62 => ?_
  refine wp_region_lit ?_
  refine wl (eL 49 2 0 (v := .agg #[.int .i64 1, .int .i64 1]) hF hM (by kernel_rfl) rfl rfl (by kernel_rfl) (by kernel_rfl) fun a w hF hM => ?_)
  refine wl (eN 50 28 (t := 39) (fun b => .slice (some ⟨b, 0, none⟩) 1 1) #[.int .i64 1, .int .i64 1] hF hM (by kernel_rfl) (fun _ => by kernel_rfl) fun bb28 a w hF hM => ?_)
  refine wl (eL 51 27 0 (v := .agg #[.int .i64 (-1), .int .i64 5]) hF hM (by kernel_rfl) rfl rfl (by kernel_rfl) (by kernel_rfl) fun a w hF hM => ?_)
  refine wl (eM 52 (v := .tuple #[.int .i64 0, .int .i64 140]) hF hM (by kernel_rfl) (Yld.to (yld_call (f := 20) (args := #[.slice (some ⟨bb28, 0, none⟩) 1 1, .agg #[.int .i64 (-1), .int .i64 5]]) hF (by kernel_rfl) (fun _ => by kernel_rfl) (fun w hM => delay_w (-1) 5 (some ⟨bb28, 0, none⟩) [(1, 1)] _ w (hM.roRow (k := 28) rfl))) (by kernel_rfl)) fun a w hF hM => ?_)
  refine sB 5 [(48, .tuple #[.int .i64 0, .int .i64 140]), (53, .int .i64 0), (54, .int .i64 140), (5, .int .i64 0), (6, .int .i64 140)] hF (by kernel_rfl) fun a hF => ?_
  refine wpList_nil ?_
  refine hK62 _ _ ?_
  refine wp_seq_k fun K63 hK63 => ?_
  refine wp_region_lit ?_
  refine wl (eL 56 2 0 (v := .agg #[.int .i64 1, .int .i64 1]) hF hM (by kernel_rfl) rfl rfl (by kernel_rfl) (by kernel_rfl) fun a w hF hM => ?_)
  refine sB 1 [(57, .agg #[.int .i64 0, .int .i64 0])] hF (by kernel_rfl) fun a hF => ?_
  refine wl (eN 58 29 (t := 39) (fun b => .slice (some ⟨b, 0, none⟩) 2 2) #[.int .i64 1, .int .i64 1, .int .i64 0, .int .i64 0] hF hM (by kernel_rfl) (fun _ => by kernel_rfl) fun bb29 a w hF hM => ?_)
  refine wl (eL 59 27 0 (v := .agg #[.int .i64 (-1), .int .i64 5]) hF hM (by kernel_rfl) rfl rfl (by kernel_rfl) (by kernel_rfl) fun a w hF hM => ?_)
  refine wl (eM 60 (v := .tuple #[.int .i64 0, .int .i64 130]) hF hM (by kernel_rfl) (Yld.to (yld_call (f := 20) (args := #[.slice (some ⟨bb29, 0, none⟩) 2 2, .agg #[.int .i64 (-1), .int .i64 5]]) hF (by kernel_rfl) (fun _ => by kernel_rfl) (fun w hM => delay_w (-1) 5 (some ⟨bb29, 0, none⟩) [(1, 1), (0, 0)] _ w (hM.roRow (k := 29) rfl))) (by kernel_rfl)) fun a w hF hM => ?_)
  refine sB 5 [(55, .tuple #[.int .i64 0, .int .i64 130]), (61, .int .i64 0), (62, .int .i64 130), (7, .int .i64 0), (8, .int .i64 130)] hF (by kernel_rfl) fun a hF => ?_
  refine wpList_nil ?_
  refine hK63 _ _ ?_
  refine wp_seq_k fun K64 hK64 => ?_
  refine wp_region_lit ?_
  refine wl (eL 64 2 0 (v := .agg #[.int .i64 1, .int .i64 1]) hF hM (by kernel_rfl) rfl rfl (by kernel_rfl) (by kernel_rfl) fun a w hF hM => ?_)
  refine wl (eL 65 27 0 (v := .agg #[.int .i64 (-1), .int .i64 5]) hF hM (by kernel_rfl) rfl rfl (by kernel_rfl) (by kernel_rfl) fun a w hF hM => ?_)
  refine wl (eM 66 (v := .tuple #[.int .i64 0, .int .i64 140]) hF hM (by kernel_rfl) (Yld.to (yld_call (f := 22) (args := #[.agg #[.int .i64 1, .int .i64 1], .agg #[.int .i64 (-1), .int .i64 5]]) hF (by kernel_rfl) (fun _ => by kernel_rfl) (fun w hM => backlog_w 1 1 (-1) 5 w)) (by kernel_rfl)) fun a w hF hM => ?_)
  refine sB 5 [(63, .tuple #[.int .i64 0, .int .i64 140]), (67, .int .i64 0), (68, .int .i64 140), (9, .int .i64 0), (10, .int .i64 140)] hF (by kernel_rfl) fun a hF => ?_
  refine wpList_nil ?_
  refine hK64 _ _ ?_
  refine wp_seq_k fun K65 hK65 => ?_
  refine wp_region_lit ?_
  refine wl (eL 70 2 0 (v := .agg #[.int .i64 1, .int .i64 1]) hF hM (by kernel_rfl) rfl rfl (by kernel_rfl) (by kernel_rfl) fun a w hF hM => ?_)
  refine wl (eL 71 27 0 (v := .agg #[.int .i64 (-1), .int .i64 5]) hF hM (by kernel_rfl) rfl rfl (by kernel_rfl) (by kernel_rfl) fun a w hF hM => ?_)
  refine wl (eM 72 (v := .tuple #[.agg #[.int .i64 0, .int .i64 0], .int .i64 140]) hF hM (by kernel_rfl) (Yld.to (yld_call (f := 24) (args := #[.agg #[.int .i64 1, .int .i64 1], .agg #[.int .i64 (-1), .int .i64 5]]) hF (by kernel_rfl) (fun _ => by kernel_rfl) (fun w hM => output_w 1 1 (-1) 5 w)) (by kernel_rfl)) fun a w hF hM => ?_)
  refine sB 3 [(69, .tuple #[.agg #[.int .i64 0, .int .i64 0], .int .i64 140]), (73, .agg #[.int .i64 0, .int .i64 0]), (74, .int .i64 140)] hF (by kernel_rfl) fun a hF => ?_
  refine wl (eN 11 30 (t := 39) (fun b => .pointer (some ⟨b, 0, none⟩)) #[.int .i64 0, .int .i64 0] hF hM (by kernel_rfl) (fun _ => by kernel_rfl) fun bb30 a w hF hM => ?_)
  refine wl (sStore (i := 30) (off := 0) (cs' := #[.int .i64 0, .int .i64 0]) hF hM (by kernel_rfl) rfl rfl (by kernel_rfl) (by kernel_rfl) rfl (by kernel_rfl) fun w hM => ?_)
  refine sB 1 [(12, .int .i64 140)] hF (by kernel_rfl) fun a hF => ?_
  refine wpList_nil ?_
  refine hK65 _ _ ?_
  refine wp_seq_k fun K66 hK66 => ?_
  refine wp_region_lit ?_
  refine wl (eL 76 1 0 (v := .agg #[.int .i64 1, .int .i64 0]) hF hM (by kernel_rfl) rfl rfl (by kernel_rfl) (by kernel_rfl) fun a w hF hM => ?_)
  refine wl (eL 77 27 0 (v := .agg #[.int .i64 (-1), .int .i64 5]) hF hM (by kernel_rfl) rfl rfl (by kernel_rfl) (by kernel_rfl) fun a w hF hM => ?_)
  refine wl (eM 78 (v := .tuple #[.agg #[.int .i64 0, .int .i64 0], .int .i64 140]) hF hM (by kernel_rfl) (Yld.to (yld_call (f := 14) (args := #[.agg #[.int .i64 1, .int .i64 0], .agg #[.int .i64 (-1), .int .i64 5]]) hF (by kernel_rfl) (fun _ => by kernel_rfl) (fun w hM => join_w 1 0 (-1) 5 w)) (by kernel_rfl)) fun a w hF hM => ?_)
  refine sB 3 [(75, .tuple #[.agg #[.int .i64 0, .int .i64 0], .int .i64 140]), (79, .agg #[.int .i64 0, .int .i64 0]), (80, .int .i64 140)] hF (by kernel_rfl) fun a hF => ?_
  refine wl (eN 13 31 (t := 23) (fun b => .pointer (some ⟨b, 0, none⟩)) #[.int .i64 0, .int .i64 0] hF hM (by kernel_rfl) (fun _ => by kernel_rfl) fun bb31 a w hF hM => ?_)
  refine wl (sStore (i := 31) (off := 0) (cs' := #[.int .i64 0, .int .i64 0]) hF hM (by kernel_rfl) rfl rfl (by kernel_rfl) (by kernel_rfl) rfl (by kernel_rfl) fun w hM => ?_)
  refine sB 1 [(14, .int .i64 140)] hF (by kernel_rfl) fun a hF => ?_
  refine wpList_nil ?_
  refine hK66 _ _ ?_
  refine wp_seq_k fun K67 hK67 => ?_
  refine wp_region_lit ?_
  refine wl (eL 82 27 0 (v := .agg #[.int .i64 (-1), .int .i64 5]) hF hM (by kernel_rfl) rfl rfl (by kernel_rfl) (by kernel_rfl) fun a w hF hM => ?_)
  refine wl (eM 83 (v := .tuple #[.slice none 0 0, .int .i64 140]) hF hM (by kernel_rfl) (yld_call (f := 27) (args := #[.slice none 0 0, .agg #[.int .i64 (-1), .int .i64 5]]) hF (by kernel_rfl) (fun _ => by kernel_rfl) (fun w hM => drain_bad (by decide : drE (-1) 5 ([] : List (Int × Int)) = 140) (by decide) (drain_err (-1) 5 none ([] : List (Int × Int)) _ w Ro.nil (by decide)))) fun a w hF hM => ?_)
  refine sB 5 [(81, .tuple #[.slice none 0 0, .int .i64 140]), (84, .slice none 0 0), (85, .int .i64 140), (15, .slice none 0 0), (16, .int .i64 140)] hF (by kernel_rfl) fun a hF => ?_
  refine wpList_nil ?_
  refine hK67 _ _ ?_
  refine wp_seq_k fun K68 hK68 => ?_
  refine wp_region_lit ?_
  refine sB 1 [(87, .agg #[.int .i64 (-1), .int .i64 1])] hF (by kernel_rfl) fun a hF => ?_
  refine wl (eN 88 32 (t := 64) (fun b => .slice (some ⟨b, 0, none⟩) 1 1) #[.int .i64 (-1), .int .i64 1] hF hM (by kernel_rfl) (fun _ => by kernel_rfl) fun bb32 a w hF hM => ?_)
  refine wl (eL 89 27 0 (v := .agg #[.int .i64 (-1), .int .i64 5]) hF hM (by kernel_rfl) rfl rfl (by kernel_rfl) (by kernel_rfl) fun a w hF hM => ?_)
  refine wl (eM 90 (v := .tuple #[.slice none 0 0, .int .i64 131]) hF hM (by kernel_rfl) (yld_call (f := 27) (args := #[.slice (some ⟨bb32, 0, none⟩) 1 1, .agg #[.int .i64 (-1), .int .i64 5]]) hF (by kernel_rfl) (fun _ => by kernel_rfl) (fun w hM => drain_bad (by decide : drE (-1) 5 [(-1, 1)] = 131) (by decide) (drain_err (-1) 5 (some ⟨bb32, 0, none⟩) [(-1, 1)] _ w (hM.roRow (k := 32) rfl) (by decide)))) fun a w hF hM => ?_)
  refine sB 5 [(86, .tuple #[.slice none 0 0, .int .i64 131]), (91, .slice none 0 0), (92, .int .i64 131), (17, .slice none 0 0), (18, .int .i64 131)] hF (by kernel_rfl) fun a hF => ?_
  refine wpList_nil ?_
  refine hK68 _ _ ?_
  refine wp_seq_k fun K69 hK69 => ?_
  refine wp_region_lit ?_
  refine wl (eL 93 27 0 (v := .agg #[.int .i64 (-1), .int .i64 5]) hF hM (by kernel_rfl) rfl rfl (by kernel_rfl) (by kernel_rfl) fun a w hF hM => ?_)
  refine wl (eM 94 (v := .int .i64 140) hF hM (by kernel_rfl) (Yld.to (yld_call (f := 16) (args := #[.agg #[.int .i64 (-1), .int .i64 5]]) hF (by kernel_rfl) (fun _ => by kernel_rfl) (fun w hM => svCheck_w (-1) 5 w)) (by kernel_rfl)) fun a w hF hM => ?_)
  refine wl (eP 95 (v0 := .bool (!decide (140 = 140))) (v := .bool false) hF (by kernel_rfl) (fun _ => by kernel_rfl) (nT (by omega)) fun a hF => ?_)
  refine sB 2 [(96, .bool false), (97, .int .i64 140)] hF (by kernel_rfl) fun a hF => ?_
  refine wl (eP 98 (v0 := .bool (!decide (140 = 140))) (v := .bool false) hF (by kernel_rfl) (fun _ => by kernel_rfl) (nT (by omega)) fun a hF => ?_)
  refine sB 3 [(99, .bool false), (100, .bool false), (101, .int .i64 130)] hF (by kernel_rfl) fun a hF => ?_
  refine wl (eP 102 (v0 := .bool (!decide (130 = 130))) (v := .bool false) hF (by kernel_rfl) (fun _ => by kernel_rfl) (nT (by omega)) fun a hF => ?_)
  refine sB 3 [(103, .bool false), (104, .bool false), (105, .int .i64 140)] hF (by kernel_rfl) fun a hF => ?_
  refine wl (eP 106 (v0 := .bool (!decide (140 = 140))) (v := .bool false) hF (by kernel_rfl) (fun _ => by kernel_rfl) (nT (by omega)) fun a hF => ?_)
  refine sB 3 [(107, .bool false), (108, .bool false), (109, .int .i64 140)] hF (by kernel_rfl) fun a hF => ?_
  refine wl (eP 110 (v0 := .bool (!decide (140 = 140))) (v := .bool false) hF (by kernel_rfl) (fun _ => by kernel_rfl) (nT (by omega)) fun a hF => ?_)
  refine sB 3 [(111, .bool false), (112, .bool false), (113, .int .i64 140)] hF (by kernel_rfl) fun a hF => ?_
  refine wl (eP 114 (v0 := .bool (!decide (140 = 140))) (v := .bool false) hF (by kernel_rfl) (fun _ => by kernel_rfl) (nT (by omega)) fun a hF => ?_)
  refine sB 3 [(115, .bool false), (116, .bool false), (117, .int .i64 140)] hF (by kernel_rfl) fun a hF => ?_
  refine wl (eP 118 (v0 := .bool (!decide (140 = 140))) (v := .bool false) hF (by kernel_rfl) (fun _ => by kernel_rfl) (nT (by omega)) fun a hF => ?_)
  refine sB 3 [(119, .bool false), (120, .bool false), (121, .int .i64 131)] hF (by kernel_rfl) fun a hF => ?_
  refine wl (eP 122 (v0 := .bool (!decide (131 = 131))) (v := .bool false) hF (by kernel_rfl) (fun _ => by kernel_rfl) (nT (by omega)) fun a hF => ?_)
  refine sB 1 [(123, .bool false)] hF (by kernel_rfl) fun a hF => ?_
  refine wpList_nil ?_
  refine hK69 _ _ ?_
  refine cF hF (by kernel_rfl) (by kernel_rfl) ?_
  refine wp_skip ?_
  refine hK60 _ _ ?_
  refine wp_region_lit ?_
  refine wl (eP 124 (v0 := .int .i64 (IntKind.i64.wrap (4 + 1))) (v := .int .i64 5) hF (by kernel_rfl) (fun _ => by kernel_rfl) (vi (by decide)) fun a hF => ?_)
  refine sB 1 [(45, .int .i64 5)] hF (by kernel_rfl) fun a hF => ?_
  refine wpList_nil ?_
  refine hK57 _ _ ?_
  refine rounds_k fun K70 hK70 => ?_
  refine wp_seq_k fun K71 hK71 => ?_
  refine wp_region_lit ?_
  refine wl (eP 46 (v0 := .bool (decide (5 < 5))) (v := .bool false) hF (by kernel_rfl) (fun _ => by kernel_rfl) (bF (by omega)) fun a hF => ?_)
  refine wpList_nil ?_
  refine hK71 _ _ ?_
  refine wp_seq_k fun K72 hK72 => ?_
  refine cF hF (by kernel_rfl) (by kernel_rfl) ?_
  refine wp_exit ?_
  refine hK3 _ _ ?_
  refine wp_seq_k fun K73 hK73 => ?_
  refine wp_region_lit ?_
  refine wl (eL 126 1 0 (v := .agg #[.int .i64 1, .int .i64 0]) hF hM (by kernel_rfl) rfl rfl (by kernel_rfl) (by kernel_rfl) fun a w hF hM => ?_)
  refine wl (eM 127 (v := .tuple #[.int .i64 0, .int .i64 2]) hF hM (by kernel_rfl) (Yld.to (yld_call (f := 20) (args := #[.slice none 0 0, .agg #[.int .i64 1, .int .i64 0]]) hF (by kernel_rfl) (fun _ => by kernel_rfl) (fun w hM => delay_w 1 0 none ([] : List (Int × Int)) _ w Ro.nil)) (by kernel_rfl)) fun a w hF hM => ?_)
  refine sB 5 [(125, .tuple #[.int .i64 0, .int .i64 2]), (128, .int .i64 0), (129, .int .i64 2), (19, .int .i64 0), (20, .int .i64 2)] hF (by kernel_rfl) fun a hF => ?_
  refine wpList_nil ?_
  refine hK73 _ _ ?_
  refine wp_seq_k fun K74 hK74 => ?_
  refine rF (by kernel_rfl) (by kernel_rfl) (fun S a w => ∃ bb33 : Nat, Fr 244 [(0, some (.bool false)), (1, some (.pointer (some ⟨bb1, 0, none⟩))), (2, some (.pointer (some ⟨bb2, 0, none⟩))), (20, some (.int .i64 2)), (21, (cond (S.getD 6 false) (some (.int .i64 0)) none)), (22, (cond (S.getD 7 false) (some (.int .i64 3)) none)), (130, (cond (S.getD 3 false) (some (.tuple #[.int .i64 0, .int .i64 3])) none)), (131, (cond (S.getD 0 false) (some (.slice (some ⟨bb33, 0, none⟩) 13 13)) none)), (132, (cond (S.getD 1 false) (some (.agg #[.int .i64 1, .int .i64 0])) none)), (133, (cond (S.getD 2 false) (some (.tuple #[.int .i64 0, .int .i64 3])) none)), (134, (cond (S.getD 4 false) (some (.int .i64 0)) none)), (135, (cond (S.getD 5 false) (some (.int .i64 3)) none))] a ∧ Mem w0.heap.size w0 [(1, some (.row bb1 23 #[.int .i64 1, .int .i64 0])), (2, some (.row bb2 39 #[.int .i64 1, .int .i64 1])), (33, (cond (S.getD 0 false) (some (.own (.slice (some ⟨bb33, 0, none⟩) 13 13) 39 2 13 (flat2 (List.replicate 13 (0, 0))))) none))] w) ?_ ?_ ?_
  · exact ⟨0, (((((((((((((Fr.nil hF).co hF (i := 135) (by kernel_rfl)).co hF (i := 134) (by kernel_rfl)).co hF (i := 133) (by kernel_rfl)).co hF (i := 132) (by kernel_rfl)).co hF (i := 131) (by kernel_rfl)).co hF (i := 130) (by kernel_rfl)).co hF (i := 22) (by kernel_rfl)).co hF (i := 21) (by kernel_rfl)).co hF (i := 20) (by kernel_rfl)).co hF (i := 2) (by kernel_rfl)).co hF (i := 1) (by kernel_rfl)).co hF (i := 0) (by kernel_rfl)), hM.drew.sub (((Sub.nil.co (k := 33) (by kernel_rfl)).co (k := 2) (by kernel_rfl)).co (k := 1) (by kernel_rfl))⟩
  · refine stC ?_ (stC ?_ (stC ?_ (stC ?_ (stC ?_ (stC ?_ (stC ?_ (stC ?_ (trivial))))))))
    · intro s0 s1 s2 s3 s4 s5 s6 s7 hc hi hp a w hS
      obtain rfl : s0 = false := hi
      obtain ⟨bb33, hF, hM⟩ := hS
      refine sMake 131 33 13 (e := 39) (size := 2) (bytes := 16) (z := .agg #[.int .i64 0, .int .i64 0]) (flat2 (List.replicate 13 (0, 0))) hF hM (by kernel_rfl) rfl (by kernel_rfl) (by kernel_rfl) (by kernel_rfl) (by kernel_rfl) (by omega) (by unfold maxLen; omega) fun bb33 a w hF hM => ?_
      exact ⟨bb33, ((hF.repl 7 (by kernel_rfl)).cast (by kernel_rfl)), ((hM.repl 2 (by kernel_rfl)).cast (by kernel_rfl))⟩
    · intro s0 s1 s2 s3 s4 s5 s6 s7 hc hi hp a w hS
      obtain rfl : s1 = false := hi
      obtain ⟨bb33, hF, hM⟩ := hS
      refine eL 132 1 0 (v := .agg #[.int .i64 1, .int .i64 0]) hF hM (by kernel_rfl) rfl rfl (by kernel_rfl) (by kernel_rfl) fun a w hF hM => ?_
      exact ⟨bb33, ((hF.repl 8 (by kernel_rfl)).cast (by kernel_rfl)), (hM.cast (by kernel_rfl))⟩
    · intro s0 s1 s2 s3 s4 s5 s6 s7 hc hi hp a w hS
      obtain rfl : s2 = false := hi
      obtain rfl : s1 = true := hp 1 (by kernel_rfl)
      obtain rfl : s0 = true := hp 0 (by kernel_rfl)
      obtain ⟨bb33, hF, hM⟩ := hS
      refine eM 133 (v := .tuple #[.int .i64 0, .int .i64 3]) hF hM (by kernel_rfl) (Yld.to (yld_call (f := 20) (args := #[.slice (some ⟨bb33, 0, none⟩) 13 13, .agg #[.int .i64 1, .int .i64 0]]) hF (by kernel_rfl) (fun _ => by kernel_rfl) (fun w hM => delay_w 1 0 (some ⟨bb33, 0, none⟩) (List.replicate 13 (0, 0)) _ w (ro_of_own (hM.ok 33 _ rfl)))) (by kernel_rfl)) fun a w hF hM => ?_
      exact ⟨bb33, ((hF.repl 9 (by kernel_rfl)).cast (by kernel_rfl)), (hM.cast (by kernel_rfl))⟩
    · intro s0 s1 s2 s3 s4 s5 s6 s7 hc hi hp a w hS
      obtain rfl : s3 = false := hi
      obtain rfl : s2 = true := hp 2 (by kernel_rfl)
      obtain ⟨bb33, hF, hM⟩ := hS
      refine eP 130 (v0 := .tuple #[.int .i64 0, .int .i64 3]) (v := .tuple #[.int .i64 0, .int .i64 3]) hF (by kernel_rfl) (fun _ => by kernel_rfl) rfl fun a hF => ?_
      exact ⟨bb33, ((hF.repl 6 (by kernel_rfl)).cast (by kernel_rfl)), (hM.cast (by kernel_rfl))⟩
    · intro s0 s1 s2 s3 s4 s5 s6 s7 hc hi hp a w hS
      obtain rfl : s4 = false := hi
      obtain rfl : s3 = true := hp 3 (by kernel_rfl)
      obtain ⟨bb33, hF, hM⟩ := hS
      refine eP 134 (v0 := .int .i64 0) (v := .int .i64 0) hF (by kernel_rfl) (fun _ => by kernel_rfl) rfl fun a hF => ?_
      exact ⟨bb33, ((hF.repl 10 (by kernel_rfl)).cast (by kernel_rfl)), (hM.cast (by kernel_rfl))⟩
    · intro s0 s1 s2 s3 s4 s5 s6 s7 hc hi hp a w hS
      obtain rfl : s5 = false := hi
      obtain rfl : s3 = true := hp 3 (by kernel_rfl)
      obtain ⟨bb33, hF, hM⟩ := hS
      refine eP 135 (v0 := .int .i64 3) (v := .int .i64 3) hF (by kernel_rfl) (fun _ => by kernel_rfl) rfl fun a hF => ?_
      exact ⟨bb33, ((hF.repl 11 (by kernel_rfl)).cast (by kernel_rfl)), (hM.cast (by kernel_rfl))⟩
    · intro s0 s1 s2 s3 s4 s5 s6 s7 hc hi hp a w hS
      obtain rfl : s6 = false := hi
      obtain rfl : s4 = true := hp 4 (by kernel_rfl)
      obtain ⟨bb33, hF, hM⟩ := hS
      refine eP 21 (v0 := .int .i64 0) (v := .int .i64 0) hF (by kernel_rfl) (fun _ => by kernel_rfl) rfl fun a hF => ?_
      exact ⟨bb33, ((hF.repl 4 (by kernel_rfl)).cast (by kernel_rfl)), (hM.cast (by kernel_rfl))⟩
    · intro s0 s1 s2 s3 s4 s5 s6 s7 hc hi hp a w hS
      obtain rfl : s7 = false := hi
      obtain rfl : s5 = true := hp 5 (by kernel_rfl)
      obtain ⟨bb33, hF, hM⟩ := hS
      refine eP 22 (v0 := .int .i64 3) (v := .int .i64 3) hF (by kernel_rfl) (fun _ => by kernel_rfl) rfl fun a hF => ?_
      exact ⟨bb33, ((hF.repl 5 (by kernel_rfl)).cast (by kernel_rfl)), (hM.cast (by kernel_rfl))⟩
  · intro a w hS
    obtain ⟨bb33, hF, hM⟩ := hS
    replace hF : Fr 244 [(0, some (.bool false)), (1, some (.pointer (some ⟨bb1, 0, none⟩))), (2, some (.pointer (some ⟨bb2, 0, none⟩))), (20, some (.int .i64 2)), (21, some (.int .i64 0)), (22, some (.int .i64 3)), (130, some (.tuple #[.int .i64 0, .int .i64 3])), (131, some (.slice (some ⟨bb33, 0, none⟩) 13 13)), (132, some (.agg #[.int .i64 1, .int .i64 0])), (133, some (.tuple #[.int .i64 0, .int .i64 3])), (134, some (.int .i64 0)), (135, some (.int .i64 3))] a := hF.cast (by kernel_rfl)
    replace hM : Mem w0.heap.size w0 [(1, some (.row bb1 23 #[.int .i64 1, .int .i64 0])), (2, some (.row bb2 39 #[.int .i64 1, .int .i64 1])), (33, some (.own (.slice (some ⟨bb33, 0, none⟩) 13 13) 39 2 13 (flat2 (List.replicate 13 (0, 0)))))] w := hM.cast (by kernel_rfl)
    refine hK74 _ _ ?_
    refine wp_seq_k fun K75 hK75 => ?_
    refine wp_region_lit ?_
    refine sB 1 [(137, .agg #[.int .i64 1, .int .i64 2])] hF (by kernel_rfl) fun a hF => ?_
    refine wl (eL 138 1 0 (v := .agg #[.int .i64 1, .int .i64 0]) hF hM (by kernel_rfl) rfl rfl (by kernel_rfl) (by kernel_rfl) fun a w hF hM => ?_)
    refine wl (eM 139 (v := .tuple #[.int .i64 0, .int .i64 141]) hF hM (by kernel_rfl) (Yld.to (yld_call (f := 22) (args := #[.agg #[.int .i64 1, .int .i64 2], .agg #[.int .i64 1, .int .i64 0]]) hF (by kernel_rfl) (fun _ => by kernel_rfl) (fun w hM => backlog_w 1 2 1 0 w)) (by kernel_rfl)) fun a w hF hM => ?_)
    refine sB 5 [(136, .tuple #[.int .i64 0, .int .i64 141]), (140, .int .i64 0), (141, .int .i64 141), (23, .int .i64 0), (24, .int .i64 141)] hF (by kernel_rfl) fun a hF => ?_
    refine wpList_nil ?_
    refine hK75 _ _ ?_
    refine wp_seq_k fun K76 hK76 => ?_
    refine wp_region_lit ?_
    refine sB 1 [(143, .agg #[.int .i64 1048576, .int .i64 1])] hF (by kernel_rfl) fun a hF => ?_
    refine wl (eL 144 1 0 (v := .agg #[.int .i64 1, .int .i64 0]) hF hM (by kernel_rfl) rfl rfl (by kernel_rfl) (by kernel_rfl) fun a w hF hM => ?_)
    refine wl (eM 145 (v := .tuple #[.agg #[.int .i64 0, .int .i64 0], .int .i64 6]) hF hM (by kernel_rfl) (Yld.to (yld_call (f := 24) (args := #[.agg #[.int .i64 1048576, .int .i64 1], .agg #[.int .i64 1, .int .i64 0]]) hF (by kernel_rfl) (fun _ => by kernel_rfl) (fun w hM => output_w 1048576 1 1 0 w)) (by kernel_rfl)) fun a w hF hM => ?_)
    refine sB 3 [(142, .tuple #[.agg #[.int .i64 0, .int .i64 0], .int .i64 6]), (146, .agg #[.int .i64 0, .int .i64 0]), (147, .int .i64 6)] hF (by kernel_rfl) fun a hF => ?_
    refine wl (eN 25 34 (t := 39) (fun b => .pointer (some ⟨b, 0, none⟩)) #[.int .i64 0, .int .i64 0] hF hM (by kernel_rfl) (fun _ => by kernel_rfl) fun bb34 a w hF hM => ?_)
    refine wl (sStore (i := 34) (off := 0) (cs' := #[.int .i64 0, .int .i64 0]) hF hM (by kernel_rfl) rfl rfl (by kernel_rfl) (by kernel_rfl) rfl (by kernel_rfl) fun w hM => ?_)
    refine sB 1 [(26, .int .i64 6)] hF (by kernel_rfl) fun a hF => ?_
    refine wpList_nil ?_
    refine hK76 _ _ ?_
    refine wp_seq_k fun K77 hK77 => ?_
    refine wp_region_lit ?_
    refine sB 2 [(149, .agg #[.int .i64 1, .int .i64 268435456]), (150, .agg #[.int .i64 1, .int .i64 1])] hF (by kernel_rfl) fun a hF => ?_
    refine wl (eM 151 (v := .tuple #[.agg #[.int .i64 0, .int .i64 0], .int .i64 6]) hF hM (by kernel_rfl) (Yld.to (yld_call (f := 14) (args := #[.agg #[.int .i64 1, .int .i64 268435456], .agg #[.int .i64 1, .int .i64 1]]) hF (by kernel_rfl) (fun _ => by kernel_rfl) (fun w hM => join_w 1 268435456 1 1 w)) (by kernel_rfl)) fun a w hF hM => ?_)
    refine sB 3 [(148, .tuple #[.agg #[.int .i64 0, .int .i64 0], .int .i64 6]), (152, .agg #[.int .i64 0, .int .i64 0]), (153, .int .i64 6)] hF (by kernel_rfl) fun a hF => ?_
    refine wl (eN 27 35 (t := 23) (fun b => .pointer (some ⟨b, 0, none⟩)) #[.int .i64 0, .int .i64 0] hF hM (by kernel_rfl) (fun _ => by kernel_rfl) fun bb35 a w hF hM => ?_)
    refine wl (sStore (i := 35) (off := 0) (cs' := #[.int .i64 0, .int .i64 0]) hF hM (by kernel_rfl) rfl rfl (by kernel_rfl) (by kernel_rfl) rfl (by kernel_rfl) fun w hM => ?_)
    refine sB 1 [(28, .int .i64 6)] hF (by kernel_rfl) fun a hF => ?_
    refine wpList_nil ?_
    refine hK77 _ _ ?_
    refine wp_seq_k fun K78 hK78 => ?_
    refine wp_region_lit ?_
    refine sB 2 [(155, .agg #[.int .i64 9, .int .i64 268435455]), (156, .agg #[.int .i64 7, .int .i64 1])] hF (by kernel_rfl) fun a hF => ?_
    refine wl (eM 157 (v := .tuple #[.agg #[.int .i64 7, .int .i64 268435456], .int .i64 0]) hF hM (by kernel_rfl) (Yld.to (yld_call (f := 14) (args := #[.agg #[.int .i64 9, .int .i64 268435455], .agg #[.int .i64 7, .int .i64 1]]) hF (by kernel_rfl) (fun _ => by kernel_rfl) (fun w hM => join_w 9 268435455 7 1 w)) (by kernel_rfl)) fun a w hF hM => ?_)
    refine sB 3 [(154, .tuple #[.agg #[.int .i64 7, .int .i64 268435456], .int .i64 0]), (158, .agg #[.int .i64 7, .int .i64 268435456]), (159, .int .i64 0)] hF (by kernel_rfl) fun a hF => ?_
    refine wl (eN 29 36 (t := 23) (fun b => .pointer (some ⟨b, 0, none⟩)) #[.int .i64 0, .int .i64 0] hF hM (by kernel_rfl) (fun _ => by kernel_rfl) fun bb36 a w hF hM => ?_)
    refine wl (sStore (i := 36) (off := 0) (cs' := #[.int .i64 7, .int .i64 268435456]) hF hM (by kernel_rfl) rfl rfl (by kernel_rfl) (by kernel_rfl) rfl (by kernel_rfl) fun w hM => ?_)
    refine sB 1 [(30, .int .i64 0)] hF (by kernel_rfl) fun a hF => ?_
    refine wpList_nil ?_
    refine hK78 _ _ ?_
    refine wp_seq_k fun K79 hK79 => ?_
    refine wp_region_lit ?_
    refine wl (eL 161 1 0 (v := .agg #[.int .i64 1, .int .i64 0]) hF hM (by kernel_rfl) rfl rfl (by kernel_rfl) (by kernel_rfl) fun a w hF hM => ?_)
    refine wl (sOwn 37 (f := 27) (args := #[.slice none 0 0, .agg #[.int .i64 1, .int .i64 0]]) (mk := fun v => .tuple #[v, .int .i64 0]) (e := 3) (size := 1) (m := 0) (xs := (([]).map (Value.int .i64))) hF hM (by kernel_rfl) rfl (by decide) (by kernel_rfl) (fun _ => by kernel_rfl) (drain_lit (by decide : drL 1 0 ([] : List (Int × Int)) 0 = []) (drain_ok 1 0 none ([] : List (Int × Int)) _ w Ro.nil (by decide) (by decide))) fun AA37 cc37 a w hF hM => ?_)
    refine sB 5 [(160, .tuple #[.slice AA37 0 cc37, .int .i64 0]), (163, .slice AA37 0 cc37), (164, .int .i64 0), (31, .slice AA37 0 cc37), (32, .int .i64 0)] hF (by kernel_rfl) fun a hF => ?_
    refine wpList_nil ?_
    refine hK79 _ _ ?_
    refine wp_seq_k fun K80 hK80 => ?_
    refine wp_region_lit ?_
    refine sB 1 [(165, .int .i64 2)] hF (by kernel_rfl) fun a hF => ?_
    refine wl (eP 166 (v0 := .bool (decide (2 = 2))) (v := .bool true) hF (by kernel_rfl) (fun _ => by kernel_rfl) (bT (by omega)) fun a hF => ?_)
    refine sB 2 [(167, .bool true), (168, .int .i64 3)] hF (by kernel_rfl) fun a hF => ?_
    refine wl (eP 169 (v0 := .bool (decide (3 = 3))) (v := .bool true) hF (by kernel_rfl) (fun _ => by kernel_rfl) (bT (by omega)) fun a hF => ?_)
    refine sB 3 [(170, .bool true), (171, .bool true), (172, .int .i64 141)] hF (by kernel_rfl) fun a hF => ?_
    refine wl (eP 173 (v0 := .bool (decide (141 = 141))) (v := .bool true) hF (by kernel_rfl) (fun _ => by kernel_rfl) (bT (by omega)) fun a hF => ?_)
    refine sB 3 [(174, .bool true), (175, .bool true), (176, .int .i64 6)] hF (by kernel_rfl) fun a hF => ?_
    refine wl (eP 177 (v0 := .bool (decide (6 = 6))) (v := .bool true) hF (by kernel_rfl) (fun _ => by kernel_rfl) (bT (by omega)) fun a hF => ?_)
    refine sB 3 [(178, .bool true), (179, .bool true), (180, .int .i64 6)] hF (by kernel_rfl) fun a hF => ?_
    refine wl (eP 181 (v0 := .bool (decide (6 = 6))) (v := .bool true) hF (by kernel_rfl) (fun _ => by kernel_rfl) (bT (by omega)) fun a hF => ?_)
    refine sB 2 [(182, .bool true), (183, .bool true)] hF (by kernel_rfl) fun a hF => ?_
    refine wl (eL 184 36 0 (v := .agg #[.int .i64 7, .int .i64 268435456]) hF hM (by kernel_rfl) rfl rfl (by kernel_rfl) (by kernel_rfl) fun a w hF hM => ?_)
    refine sB 1 [(185, .agg #[.int .i64 7, .int .i64 268435456])] hF (by kernel_rfl) fun a hF => ?_
    refine wl (eM 186 (v := .bool true) hF hM (by kernel_rfl) ((yld_eql (C := Mem _ _ _) [7, 268435456] [7, 268435456] hF rfl (by kernel_rfl) (by kernel_rfl) (by kernel_rfl) rfl (by kernel_rfl) (by kernel_rfl) (by kernel_rfl) rfl rfl).to (bT (by decide))) fun a w hF hM => ?_)
    refine sB 3 [(187, .bool true), (188, .bool true), (189, .int .i64 0)] hF (by kernel_rfl) fun a hF => ?_
    refine wl (eP 190 (v0 := .bool (decide (0 = 0))) (v := .bool true) hF (by kernel_rfl) (fun _ => by kernel_rfl) (bT (by omega)) fun a hF => ?_)
    refine sB 4 [(191, .bool true), (192, .bool true), (193, .slice AA37 0 cc37), (194, .int .i64 0)] hF (by kernel_rfl) fun a hF => ?_
    refine wl (eP 195 (v0 := .bool (decide (0 = 0))) (v := .bool true) hF (by kernel_rfl) (fun _ => by kernel_rfl) (bT (by omega)) fun a hF => ?_)
    refine sB 3 [(196, .bool true), (197, .bool true), (198, .int .i64 0)] hF (by kernel_rfl) fun a hF => ?_
    refine wl (eP 199 (v0 := .bool (decide (0 = 0))) (v := .bool true) hF (by kernel_rfl) (fun _ => by kernel_rfl) (bT (by omega)) fun a hF => ?_)
    refine sB 2 [(200, .bool true), (33, .bool true)] hF (by kernel_rfl) fun a hF => ?_
    refine wpList_nil ?_
    refine hK80 _ _ ?_
    refine wp_seq_k fun K81 hK81 => ?_
    refine wp_region_lit ?_
    refine sB 1 [(201, .agg #[.int .i64 10, .int .i64 2097152])] hF (by kernel_rfl) fun a hF => ?_
    refine wl (eN 34 38 (t := 39) (fun b => .pointer (some ⟨b, 0, none⟩)) #[.int .i64 0, .int .i64 0] hF hM (by kernel_rfl) (fun _ => by kernel_rfl) fun bb38 a w hF hM => ?_)
    refine wl (sStore (i := 38) (off := 0) (cs' := #[.int .i64 10, .int .i64 2097152]) hF hM (by kernel_rfl) rfl rfl (by kernel_rfl) (by kernel_rfl) rfl (by kernel_rfl) fun w hM => ?_)
    refine wpList_nil ?_
    refine hK81 _ _ ?_
    refine wp_seq_k fun K82 hK82 => ?_
    refine wp_region_lit ?_
    refine sB 1 [(202, .agg #[.int .i64 1048576, .int .i64 3])] hF (by kernel_rfl) fun a hF => ?_
    refine wl (eN 35 39 (t := 23) (fun b => .pointer (some ⟨b, 0, none⟩)) #[.int .i64 0, .int .i64 0] hF hM (by kernel_rfl) (fun _ => by kernel_rfl) fun bb39 a w hF hM => ?_)
    refine wl (sStore (i := 39) (off := 0) (cs' := #[.int .i64 1048576, .int .i64 3]) hF hM (by kernel_rfl) rfl rfl (by kernel_rfl) (by kernel_rfl) rfl (by kernel_rfl) fun w hM => ?_)
    refine wpList_nil ?_
    refine hK82 _ _ ?_
    refine wp_seq_k fun K83 hK83 => ?_
    refine wp_region_lit ?_
    refine wl (eL 203 1 0 (v := .agg #[.int .i64 1, .int .i64 0]) hF hM (by kernel_rfl) rfl rfl (by kernel_rfl) (by kernel_rfl) fun a w hF hM => ?_)
    refine wl (eL 204 2 0 (v := .agg #[.int .i64 1, .int .i64 1]) hF hM (by kernel_rfl) rfl rfl (by kernel_rfl) (by kernel_rfl) fun a w hF hM => ?_)
    refine wl (eN 205 40 (t := 39) (fun b => .slice (some ⟨b, 0, none⟩) 1 1) #[.int .i64 1, .int .i64 1] hF hM (by kernel_rfl) (fun _ => by kernel_rfl) fun bb40 a w hF hM => ?_)
    refine wl (eM 206 (v := .bool true) hF hM (by kernel_rfl) (Yld.to (yld_call (f := 31) (args := #[.agg #[.int .i64 1, .int .i64 0], .int .i64 1048576, .slice (some ⟨bb40, 0, none⟩) 1 1]) hF (by kernel_rfl) (fun _ => by kernel_rfl) (fun w hM => delayed_w 1 0 1048576 (some ⟨bb40, 0, none⟩) [(1, 1)] _ w (hM.roRow (k := 40) rfl))) (by kernel_rfl)) fun a w hF hM => ?_)
    refine sB 1 [(207, .bool true)] hF (by kernel_rfl) fun a hF => ?_
    refine wl (eL 208 1 0 (v := .agg #[.int .i64 1, .int .i64 0]) hF hM (by kernel_rfl) rfl rfl (by kernel_rfl) (by kernel_rfl) fun a w hF hM => ?_)
    refine sB 1 [(209, .agg #[.int .i64 1048576, .int .i64 1])] hF (by kernel_rfl) fun a hF => ?_
    refine wl (eN 210 41 (t := 39) (fun b => .slice (some ⟨b, 0, none⟩) 1 1) #[.int .i64 1048576, .int .i64 1] hF hM (by kernel_rfl) (fun _ => by kernel_rfl) fun bb41 a w hF hM => ?_)
    refine wl (eM 211 (v := .bool true) hF hM (by kernel_rfl) (Yld.to (yld_call (f := 31) (args := #[.agg #[.int .i64 1, .int .i64 0], .int .i64 1099511627776, .slice (some ⟨bb41, 0, none⟩) 1 1]) hF (by kernel_rfl) (fun _ => by kernel_rfl) (fun w hM => delayed_w 1 0 1099511627776 (some ⟨bb41, 0, none⟩) [(1048576, 1)] _ w (hM.roRow (k := 41) rfl))) (by kernel_rfl)) fun a w hF hM => ?_)
    refine sB 2 [(212, .bool true), (213, .bool true)] hF (by kernel_rfl) fun a hF => ?_
    refine wl (eL 214 39 0 (v := .agg #[.int .i64 1048576, .int .i64 3]) hF hM (by kernel_rfl) rfl rfl (by kernel_rfl) (by kernel_rfl) fun a w hF hM => ?_)
    refine sB 1 [(215, .agg #[.int .i64 10, .int .i64 1048576])] hF (by kernel_rfl) fun a hF => ?_
    refine wl (eL 216 38 0 (v := .agg #[.int .i64 10, .int .i64 2097152]) hF hM (by kernel_rfl) rfl rfl (by kernel_rfl) (by kernel_rfl) fun a w hF hM => ?_)
    refine wl (eN 217 42 (t := 39) (fun b => .slice (some ⟨b, 0, none⟩) 2 2) #[.int .i64 10, .int .i64 1048576, .int .i64 10, .int .i64 2097152] hF hM (by kernel_rfl) (fun _ => by kernel_rfl) fun bb42 a w hF hM => ?_)
    refine wl (eM 218 (v := .bool true) hF hM (by kernel_rfl) (Yld.to (yld_call (f := 31) (args := #[.agg #[.int .i64 1048576, .int .i64 3], .int .i64 13, .slice (some ⟨bb42, 0, none⟩) 2 2]) hF (by kernel_rfl) (fun _ => by kernel_rfl) (fun w hM => delayed_w 1048576 3 13 (some ⟨bb42, 0, none⟩) [(10, 1048576), (10, 2097152)] _ w (hM.roRow (k := 42) rfl))) (by kernel_rfl)) fun a w hF hM => ?_)
    refine sB 2 [(219, .bool true), (220, .bool true)] hF (by kernel_rfl) fun a hF => ?_
    refine wl (eL 221 39 0 (v := .agg #[.int .i64 1048576, .int .i64 3]) hF hM (by kernel_rfl) rfl rfl (by kernel_rfl) (by kernel_rfl) fun a w hF hM => ?_)
    refine sB 1 [(222, .agg #[.int .i64 10, .int .i64 1])] hF (by kernel_rfl) fun a hF => ?_
    refine wl (eL 223 38 0 (v := .agg #[.int .i64 10, .int .i64 2097152]) hF hM (by kernel_rfl) rfl rfl (by kernel_rfl) (by kernel_rfl) fun a w hF hM => ?_)
    refine wl (eL 224 38 0 (v := .agg #[.int .i64 10, .int .i64 2097152]) hF hM (by kernel_rfl) rfl rfl (by kernel_rfl) (by kernel_rfl) fun a w hF hM => ?_)
    refine wl (eN 225 43 (t := 39) (fun b => .slice (some ⟨b, 0, none⟩) 3 3) #[.int .i64 10, .int .i64 1, .int .i64 10, .int .i64 2097152, .int .i64 10, .int .i64 2097152] hF hM (by kernel_rfl) (fun _ => by kernel_rfl) fun bb43 a w hF hM => ?_)
    refine wl (eM 226 (v := .bool true) hF hM (by kernel_rfl) (Yld.to (yld_call (f := 31) (args := #[.agg #[.int .i64 1048576, .int .i64 3], .int .i64 13, .slice (some ⟨bb43, 0, none⟩) 3 3]) hF (by kernel_rfl) (fun _ => by kernel_rfl) (fun w hM => delayed_w 1048576 3 13 (some ⟨bb43, 0, none⟩) [(10, 1), (10, 2097152), (10, 2097152)] _ w (hM.roRow (k := 43) rfl))) (by kernel_rfl)) fun a w hF hM => ?_)
    refine sB 2 [(227, .bool true), (228, .bool true)] hF (by kernel_rfl) fun a hF => ?_
    refine wl (eL 229 39 0 (v := .agg #[.int .i64 1048576, .int .i64 3]) hF hM (by kernel_rfl) rfl rfl (by kernel_rfl) (by kernel_rfl) fun a w hF hM => ?_)
    refine sB 1 [(230, .agg #[.int .i64 20, .int .i64 1048576])] hF (by kernel_rfl) fun a hF => ?_
    refine wl (eL 231 38 0 (v := .agg #[.int .i64 10, .int .i64 2097152]) hF hM (by kernel_rfl) rfl rfl (by kernel_rfl) (by kernel_rfl) fun a w hF hM => ?_)
    refine wl (eN 232 44 (t := 39) (fun b => .slice (some ⟨b, 0, none⟩) 2 2) #[.int .i64 20, .int .i64 1048576, .int .i64 10, .int .i64 2097152] hF hM (by kernel_rfl) (fun _ => by kernel_rfl) fun bb44 a w hF hM => ?_)
    refine wl (eM 233 (v := .bool true) hF hM (by kernel_rfl) (Yld.to (yld_call (f := 31) (args := #[.agg #[.int .i64 1048576, .int .i64 3], .int .i64 23, .slice (some ⟨bb44, 0, none⟩) 2 2]) hF (by kernel_rfl) (fun _ => by kernel_rfl) (fun w hM => delayed_w 1048576 3 23 (some ⟨bb44, 0, none⟩) [(20, 1048576), (10, 2097152)] _ w (hM.roRow (k := 44) rfl))) (by kernel_rfl)) fun a w hF hM => ?_)
    refine sB 2 [(234, .bool true), (36, .bool true)] hF (by kernel_rfl) fun a hF => ?_
    refine wpList_nil ?_
    refine hK83 _ _ ?_
    refine wp_seq_k fun K84 hK84 => ?_
    refine wp_region_lit ?_
    refine sB 1 [(235, .bool true)] hF (by kernel_rfl) fun a hF => ?_
    refine wl (eM 236 (v := .bool true) hF hM (by kernel_rfl) (yld_call (f := 18) (args := #[]) hF (by kernel_rfl) (fun _ => by kernel_rfl) (fun w hM => works4_w w)) fun a w hF hM => ?_)
    refine sB 8 [(237, .bool true), (238, .bool true), (239, .bool true), (240, .bool true), (241, .bool true), (242, .bool true), (243, .bool true), (0, .bool true)] hF (by kernel_rfl) fun a hF => ?_
    refine wpList_nil ?_
    refine hK84 _ _ ?_
    refine wp_ret ?_
    refine hR0 _ _ ?_
    refine ret_of hF hM (.tmp rfl (.nil)) ?_
    exact ⟨rfl, hM.bel⟩

end Go.Proofs.Ytoighcbbaacnaaa
